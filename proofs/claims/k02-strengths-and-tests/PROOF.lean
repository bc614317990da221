import PyProof.Rows.All
import Wide.All
import OpenK.AllK
import Wide.FinOn
import HandS.ForMost
import HandS.Exc
import HandS.ExcOwn
import HandS.WordsExc
import HandS.TupAny
import HandS.IsInst
import KE.KDictKeyed
import KE.KDictWalk
import KE.KDictCopyH
import KE.KDictSum
import KE.SortData
import HandS.Flow
import HandS.Style
import HandS.TupMul
import HandS.TryOnly
import HandS.Deep
import KE.GoesEnum
import KE.GoesMore
import HandS.Defaults
import HandS.HeadHook1
import HandS.HeadHook2
import KE.DataMinMax
import PyProof.Rows.RowBridgeK
import HandS.SortKw
import KE.KExcIs
import HandS.ExcInit
import HandS.ExcIs
import HandS.ExcField
import HandS.Head0
import HandS.Head1
import HandS.Head2
import HandS.HeadEnd
import PySem.Challenge.RW_pairtests_k02_strengths_and_tests
set_option Elab.async false
set_option linter.all false
set_option maxRecDepth 100000
/-! The data layer, part 1: data, bindings, the frozen heap, the judgements for expressions. -/
namespace DL
open PySem PySem.Spec PyProof.Rows L2

abbrev D := PyData

/-! ### outcomes -/
/-- an exception: the name of its class, the number it bears -/
structure Exc where
  cls : String
  num : Option Int
/-- an expression's outcome -/
inductive Res (α : Type) where
  | ok (a : α)
  | ex (c : Exc)
  | bad
def Res.bind {α β : Type} : Res α → (α → Res β) → Res β
  | .ok a, f => f a
  | .ex c, _ => .ex c
  | .bad, _ => .bad
def Res.map {α β : Type} (f : α → β) : Res α → Res β
  | .ok a => .ok (f a)
  | .ex c => .ex c
  | .bad => .bad
def Res.of {α : Type} : Option α → Res α
  | some a => .ok a
  | none => .bad
@[simp] theorem Res.bind_ok {α β : Type} (a : α) (f : α → Res β) : (Res.ok a).bind f = f a := rfl
@[simp] theorem Res.bind_ex {α β : Type} (c : Exc) (f : α → Res β) : (Res.ex c : Res α).bind f = .ex c := rfl
@[simp] theorem Res.bind_bad {α β : Type} (f : α → Res β) : (Res.bad : Res α).bind f = .bad := rfl
@[simp] theorem Res.map_ok {α β : Type} (f : α → β) (a : α) : (Res.ok a).map f = .ok (f a) := rfl
@[simp] theorem Res.map_ex {α β : Type} (f : α → β) (c : Exc) : (Res.ex c : Res α).map f = .ex c := rfl
@[simp] theorem Res.map_bad {α β : Type} (f : α → β) : (Res.bad : Res α).map f = .bad := rfl
@[simp] theorem Res.of_some {α : Type} (a : α) : Res.of (some a) = .ok a := rfl
@[simp] theorem Res.of_none {α : Type} : Res.of (none : Option α) = .bad := rfl

/-! ### dicts whose keys are tuples, nested -/
mutual
def keyOf : D → Option NestedKey
  | .none => some .none
  | .bool b => some (.num (if b = true then 1 else 0))
  | .int i => some (.num i)
  | .str x => some (.text x)
  | .tuple xs => (keysOf xs).map NestedKey.tup
  | .list _ => none
  | .dict _ => none
def keysOf : List D → Option (List NestedKey)
  | [] => some []
  | x :: xs => match keyOf x, keysOf xs with
    | some k, some ks => some (k :: ks)
    | _, _ => none
end
/-- an entry: the key, where its tuple stands, the value -/
abbrev Ent := NestedKey × Addr × V
def EntV : List Ent → List (NestedKey × Addr × Value) → Prop := Paired fun y x => y.1 = x.1 ∧ y.2.1 = x.2.1 ∧ RelV y.2.2 x.2.2
def dctP (w : World) (a : Addr) (ys : List Ent) (h : Heap) : Prop := (a == sysModules) = false ∧ ∃ xs, EntV ys xs ∧
  (∃ o es ep, h.get? a = some o ∧ o.ExactDict ∧ o.data = .dict es ep ∧ es.toList = xs.map fun x => (⟨x.1.hash w, .ref x.2.1, x.2.2⟩ : DictEntry)) ∧ (ys.map (·.1)).Nodup
/-- such a dict at a, the very object -/
def dctO (w : World) (a : Addr) (ys : List Ent) (o : Obj) : HO := .ext fun h => dctP w a ys h ∧ h.get? a = some o
/-- the world; the class of the objects -/
class Wd where
  w : World
  C : Addr
/-! ### data in a heap -/
mutual
inductive Is [Wd] (F : Hp) : V → PyData → Prop
  | non : Is F .non .none
  | bl (b : Bool) : Is F (.bl b) (.bool b)
  | int (i : Int) : Is F (.int i) (.int i)
  | str (x : Str) : Is F (.str x) (.str x)
  | lst {a : Addr} {xs : List V} {ds : List PyData} : Rd F a (.lst xs) → xs.length ≤ sizeLine → IsA F xs ds → Is F (.ref a) (.list ds)
  | tup {a : Addr} {xs : List V} {ds : List PyData} : Rd F a (.tup xs) → xs.length ≤ sizeLine → IsA F xs ds → Is F (.ref a) (.tuple ds)
  | dct {a : Addr} {ys : List Ent} {o : Obj} {kvs : List (PyData × PyData)} : F a = some (dctO Wd.w a ys o) → ys.length ≤ sizeLine → IsE F ys kvs → Is F (.ref a) (.dict kvs)
  | obj {a dx : Addr} {fs : List (Str × V)} {kvs : List (PyData × PyData)} : F a = some (.ins Wd.C dx fs) → IsO F fs kvs → Is F (.ref a) (.dict ((.none, .none) :: kvs))
inductive IsA [Wd] (F : Hp) : List V → List PyData → Prop
  | nil : IsA F [] []
  | cons {v : V} {vs : List V} {d : PyData} {ds : List PyData} : Is F v d → IsA F vs ds → IsA F (v :: vs) (d :: ds)
inductive IsE [Wd] (F : Hp) : List Ent → List (PyData × PyData) → Prop
  | nil : IsE F [] []
  | cons {y : Ent} {ys : List Ent} {k d : PyData} {es : List (PyData × PyData)} : keyOf k = some y.1 → y.1.depth ≤ 8 → Is F (.ref y.2.1) k → Is F y.2.2 d → IsE F ys es → IsE F (y :: ys) ((k, d) :: es)
inductive IsO [Wd] (F : Hp) : List (Str × V) → List (PyData × PyData) → Prop
  | nil : IsO F [] []
  | cons {f : Str} {v : V} {fs : List (Str × V)} {d : PyData} {es : List (PyData × PyData)} : Is F v d → IsO F fs es → IsO F ((f, v) :: fs) ((.str f, d) :: es)
end
theorem Rd.mono {F F' : Hp} {a : Addr} {u : HO} (e : Same F F') (h : Rd F a u) : Rd F' a u := by
  rcases h with h | ⟨o, h⟩
  · exact .inl (e _ _ h)
  · exact .inr ⟨o, e _ _ h⟩
section
variable [Wd] {F F' : Hp}
mutual
theorem Is.mono (e : Same F F') : ∀ {v : V} {d : PyData}, Is F v d → Is F' v d
  | _, _, .non => .non
  | _, _, .bl b => .bl b
  | _, _, .int i => .int i
  | _, _, .str x => .str x
  | _, _, .lst h z t => .lst (Rd.mono e h) z (IsA.mono e t)
  | _, _, .tup h z t => .tup (Rd.mono e h) z (IsA.mono e t)
  | _, _, .dct h z t => .dct (e _ _ h) z (IsE.mono e t)
  | _, _, .obj h t => .obj (e _ _ h) (IsO.mono e t)
theorem IsA.mono (e : Same F F') : ∀ {vs : List V} {ds : List PyData}, IsA F vs ds → IsA F' vs ds
  | _, _, .nil => .nil
  | _, _, .cons h t => .cons (Is.mono e h) (IsA.mono e t)
theorem IsE.mono (e : Same F F') : ∀ {ys : List Ent} {es : List (PyData × PyData)}, IsE F ys es → IsE F' ys es
  | _, _, .nil => .nil
  | _, _, .cons a b c d t => .cons a b (Is.mono e c) (Is.mono e d) (IsE.mono e t)
theorem IsO.mono (e : Same F F') : ∀ {fs : List (Str × V)} {es : List (PyData × PyData)}, IsO F fs es → IsO F' fs es
  | _, _, .nil => .nil
  | _, _, .cons d t => .cons (Is.mono e d) (IsO.mono e t)
end
mutual
/-- data without dicts -/
def noDct : PyData → Bool
  | .list xs => noDctA xs
  | .tuple xs => noDctA xs
  | .dict _ => false
  | _ => true
def noDctA : List PyData → Bool
  | [] => true
  | x :: xs => noDct x && noDctA xs
end
mutual
theorem noDct_lay : ∀ d : PyData, d.canLay0 = true → noDct d = true
  | .none, _ => rfl
  | .bool _, _ => rfl
  | .int _, _ => rfl
  | .str _, _ => rfl
  | .list xs, h => by simpa [noDct] using noDctA_lay xs (by simpa [PyData.canLay0] using h)
  | .tuple xs, h => by simpa [noDct] using noDctA_lay xs (by simpa [PyData.canLay0] using h)
  | .dict kvs, h => by simp [PyData.canLay0] at h
theorem noDctA_lay : ∀ ds : List PyData, PyData.canLayAll0 ds = true → noDctA ds = true
  | [], _ => rfl
  | x :: xs, h => by
    simp only [PyData.canLayAll0, Bool.and_eq_true] at h
    simp [noDctA, noDct_lay x h.1, noDctA_lay xs h.2]
end
theorem noDct_shaped {d : PyData} (h : SeqAt.shaped d = true) : noDct d = true := by
  unfold SeqAt.shaped at h
  exact noDct_lay d (Bool.and_eq_true_iff.mp h).1
mutual
theorem Is.dp {K : PySem.W.Frag} : ∀ {v : V} {d : PyData}, Is F v d → noDct d = true → Dp K F v d
  | _, _, .non, _ => .non
  | _, _, .bl b, _ => .bl b
  | _, _, .int i, _ => .int i
  | _, _, .str x, _ => .str x
  | _, .list ds, .lst h _ t, e => .lst (.inl h) (IsA.dp t (by simpa [noDct] using e))
  | _, .tuple ds, .tup h _ t, e => .tup (.inl h) (IsA.dp t (by simpa [noDct] using e))
  | _, .dict _, .dct _ _ _, e => by simp [noDct] at e
  | _, .dict _, .obj _ _, e => by simp [noDct] at e
theorem IsA.dp {K : PySem.W.Frag} : ∀ {vs : List V} {ds : List PyData}, IsA F vs ds → noDctA ds = true → DpAll K F vs ds
  | _, _, .nil, _ => .nil
  | _, d :: ds, .cons h t, e => .cons (Is.dp h (Bool.and_eq_true_iff.mp (by simpa only [noDctA] using e)).1) (IsA.dp t (Bool.and_eq_true_iff.mp (by simpa only [noDctA] using e)).2)
end
theorem IsA.length : ∀ {vs : List V} {ds : List PyData}, IsA F vs ds → vs.length = ds.length
  | _, _, .nil => rfl
  | _, _, .cons _ t => congrArg (· + 1) (IsA.length t)
theorem IsA.append : ∀ {vs ws : List V} {ds es : List PyData}, IsA F vs ds → IsA F ws es → IsA F (vs ++ ws) (ds ++ es)
  | _, _, _, _, .nil, q => q
  | _, _, _, _, .cons h t, q => .cons h (IsA.append t q)
theorem IsA.take : ∀ {vs : List V} {ds : List PyData} (n : Nat), IsA F vs ds → IsA F (vs.take n) (ds.take n)
  | _, _, 0, _ => .nil
  | _, _, _ + 1, .nil => .nil
  | _, _, n + 1, .cons h t => .cons h (IsA.take n t)
theorem IsA.drop : ∀ {vs : List V} {ds : List PyData} (n : Nat), IsA F vs ds → IsA F (vs.drop n) (ds.drop n)
  | _, _, 0, r => r
  | _, _, _ + 1, .nil => .nil
  | _, _, n + 1, .cons _ t => IsA.drop n t
theorem IsA.get : ∀ {vs : List V} {ds : List PyData} {i : Nat} {d : PyData}, IsA F vs ds → ds[i]? = some d → ∃ v, vs[i]? = some v ∧ Is F v d
  | _, _, _, _, .nil, e => by simp at e
  | _, _, 0, _, .cons r _, e => by simp at e; subst e; exact ⟨_, rfl, r⟩
  | _, _, i + 1, _, .cons _ t, e => by
    obtain ⟨v, h1, h2⟩ := IsA.get (i := i) t (by simpa using e)
    exact ⟨v, by simpa using h1, h2⟩
theorem IsA.get' : ∀ {vs : List V} {ds : List PyData} {i : Nat} {v : V}, IsA F vs ds → vs[i]? = some v → ∃ d, ds[i]? = some d ∧ Is F v d
  | _, _, _, _, .nil, e => by simp at e
  | _, _, 0, _, .cons r _, e => by simp at e; subst e; exact ⟨_, rfl, r⟩
  | _, _, i + 1, _, .cons _ t, e => by
    obtain ⟨d, h1, h2⟩ := IsA.get' (i := i) t (by simpa using e)
    exact ⟨d, by simpa using h1, h2⟩
theorem IsA.eraseIdx : ∀ {vs : List V} {ds : List PyData} (i : Nat), IsA F vs ds → IsA F (vs.eraseIdx i) (ds.eraseIdx i)
  | _, _, _, .nil => .nil
  | _, _, 0, .cons _ t => t
  | _, _, i + 1, .cons r t => .cons r (IsA.eraseIdx i t)
theorem IsA.dropLast : ∀ {vs : List V} {ds : List PyData}, IsA F vs ds → IsA F vs.dropLast ds.dropLast
  | _, _, .nil => .nil
  | _, _, .cons _ .nil => .nil
  | _, _, .cons h (.cons h' t) => .cons h (IsA.dropLast (.cons h' t))
theorem IsA.reverse : ∀ {vs : List V} {ds : List PyData}, IsA F vs ds → IsA F vs.reverse ds.reverse
  | _, _, .nil => .nil
  | _, _, .cons h t => by
    rw [List.reverse_cons, List.reverse_cons]
    exact IsA.append (IsA.reverse t) (.cons h .nil)
end

/-! ### the frozen part F of a heap H: all data lies in it; what is not in it may be written -/
structure Ext (F H F' H' : Hp) : Prop where
  up : Same F F'
  keep : Same H H'
  le : Same F' H'
  new : ∀ p o, F p = none → H p = some o → F' p = none
theorem Ext.refl {F H : Hp} (le : Same F H) : Ext F H F H := ⟨Same.refl _, Same.refl _, le, fun _ _ h _ => h⟩
theorem Ext.trans {F H F1 H1 F2 H2 : Hp} (a : Ext F H F1 H1) (b : Ext F1 H1 F2 H2) : Ext F H F2 H2 :=
  ⟨a.up.trans b.up, a.keep.trans b.keep, b.le, fun p o h1 h2 => b.new p o (a.new p o h1 h2) (a.keep p o h2)⟩
theorem same_upd {H : Hp} {p : Addr} {o : HO} (h : H p = none) : Same H (upd H p o) := fun b x e => by
  rw [upd_ne (ne_of_none e h)]
  exact e
theorem none_of_le {F H : Hp} {p : Addr} (le : Same F H) (h : H p = none) : F p = none := Same.free le h
/-- a new object, frozen at once -/
theorem Ext.laid {F H : Hp} {p : Addr} {o : HO} (le : Same F H) (h : H p = none) : Ext F H (upd F p o) (upd H p o) := by
  refine ⟨same_upd (none_of_le le h), same_upd h, fun b x e => ?_, fun b x e e2 => ?_⟩
  · by_cases hb : b = p
    · subst hb; rw [upd_same] at e ⊢; exact e
    · rw [upd_ne hb] at e ⊢; exact le _ _ e
  · rw [upd_ne (ne_of_none e2 h)]; exact e
/-- a new object that may be written -/
theorem Ext.fresh {F H : Hp} {p : Addr} {o : HO} (le : Same F H) (h : H p = none) : Ext F H F (upd H p o) :=
  ⟨Same.refl _, same_upd h, fun b x e => same_upd h _ _ (le _ _ e), fun _ _ e _ => e⟩
/-- an object of one's own is frozen -/
theorem Ext.freeze {F H F' H' : Hp} {p : Addr} {o : HO} (x : Ext F H F' H') (hf : F' p = none) (hn : H p = none) (hp : H' p = some o) : Ext F H (upd F' p o) H' := by
  refine ⟨x.up.trans (same_upd hf), x.keep, fun b y e => ?_, fun b y e e2 => ?_⟩
  · by_cases hb : b = p
    · subst hb; rw [upd_same] at e; rw [hp]; exact e
    · rw [upd_ne hb] at e; exact x.le _ _ e
  · rw [upd_ne (ne_of_none e2 hn)]; exact x.new _ _ e e2

def EntsIs [Wd] (F : Hp) : List Ent → List (D × D) → Prop := Paired fun y e => keyOf e.1 = some y.1 ∧ y.1.depth ≤ 8 ∧ Is F (.ref y.2.1) e.1 ∧ Is F y.2.2 e.2
theorem EntsIs.mono [Wd] {F F' : Hp} (e : Same F F') {ys : List Ent} {kvs : List (D × D)} (h : EntsIs F ys kvs) : EntsIs F' ys kvs := Paired.mapP h fun _ _ ⟨a, b, c, d⟩ => ⟨a, b, c.mono e, d.mono e⟩

theorem EntsIs.e [Wd] {F : Hp} : ∀ {ys : List Ent} {kvs : List (D × D)}, EntsIs F ys kvs → IsE F ys kvs
  | _, _, .nil => .nil
  | _, _, .cons h t => .cons h.1 h.2.1 h.2.2.1 h.2.2.2 (EntsIs.e t)
theorem IsE.ents [Wd] {F : Hp} : ∀ {ys : List Ent} {kvs : List (D × D)}, IsE F ys kvs → EntsIs F ys kvs
  | _, _, .nil => .nil
  | _, _, .cons a b c d t => .cons ⟨a, b, c, d⟩ (IsE.ents t)

/-! ### bindings -/
inductive B where
  | d (x : D)
  | own (xs : List D)
  | dct (kvs : List (D × D))
  | raw
abbrev Rho := List (Option B)
def B.isOwn : B → Bool
  | .d _ => false
  | .own _ => true
  | .dct _ => true
  | .raw => false
/-- what flies for c: its class, its dict, frozen -/
def Zx (Z : String → Addr → Prop) (c : Exc) (cls : Value) (dd : Option Addr) (F : Hp) : Prop := ∃ C : Addr, Z c.cls C ∧ cls = .ref C ∧ match c.num with
  | none => dd = none
  | some n => ∃ d, dd = some d ∧ F d = some (.xd [(("at" : Str), .int n)])
/-- the ambience of a def's body: the frozen heap and the heap at its entry, the exceptions -/
structure Amb where
  F0 : Hp
  H0 : Hp
  Z : String → Addr → Prop
  n : Nat
  x : V
/-- a list of one's own at v -/
def OwnL [Wd] (A : Amb) (F H : Hp) (v : V) (xs : List D) : Prop :=
  ∃ p vs, v = .ref p ∧ F p = none ∧ A.H0 p = none ∧ H p = some (.lst vs) ∧ vs.length ≤ sizeLine ∧ IsA F vs xs
/-- a dict of one's own at v -/
def OwnD [Wd] (A : Amb) (F H : Hp) (v : V) (kvs : List (D × D)) : Prop :=
  ∃ p ys o, v = .ref p ∧ F p = none ∧ A.H0 p = none ∧ H p = some (dctO Wd.w p ys o) ∧ ys.length ≤ sizeLine ∧ EntsIs F ys kvs
def Bd [Wd] (A : Amb) (F H : Hp) (v : V) : B → Prop
  | .d x => Is F v x
  | .own xs => OwnL A F H v xs
  | .dct kvs => OwnD A F H v kvs
  | .raw => v = A.x
theorem OwnL.ext [Wd] {A : Amb} {F H F' H' : Hp} {v : V} {xs : List D} (x : Ext F H F' H') (h : OwnL A F H v xs) : OwnL A F' H' v xs := by
  obtain ⟨p, vs, e, hf, h0, hp, hz, hi⟩ := h
  exact ⟨p, vs, e, x.new _ _ hf hp, h0, x.keep _ _ hp, hz, hi.mono x.up⟩
theorem OwnD.ext [Wd] {A : Amb} {F H F' H' : Hp} {v : V} {kvs : List (D × D)} (x : Ext F H F' H') (h : OwnD A F H v kvs) : OwnD A F' H' v kvs := by
  obtain ⟨p, ys, o, e, hf, h0, hp, hz, hi⟩ := h
  exact ⟨p, ys, o, e, x.new _ _ hf hp, h0, x.keep _ _ hp, hz, hi.mono x.up⟩
theorem Bd.ext [Wd] {A : Amb} {F H F' H' : Hp} {v : V} (x : Ext F H F' H') : ∀ {b : B}, Bd A F H v b → Bd A F' H' v b
  | .d _, h => Is.mono x.up h
  | .own _, h => OwnL.ext x h
  | .dct _, h => OwnD.ext x h
  | .raw, h => h
/-- what is one's own stands at an address that is not frozen -/
theorem Bd.at [Wd] {A : Amb} {F H : Hp} {v : V} : ∀ {b : B}, b.isOwn = true → Bd A F H v b → ∃ p o, v = .ref p ∧ F p = none ∧ A.H0 p = none ∧ H p = some o
  | .d _, e, _ => by cases e
  | .raw, e, _ => by cases e
  | .own _, _, ⟨p, vs, e, h1, h2, h3, _⟩ => ⟨p, _, e, h1, h2, h3⟩
  | .dct _, _, ⟨p, vs, o, e, h1, h2, h3, _⟩ => ⟨p, _, e, h1, h2, h3⟩
/-- .. and stays what it is, if the heap stays there and F grows elsewhere -/
theorem Bd.move [Wd] {A : Amb} {F H F' H' : Hp} {p : Addr} {b : B} (o : b.isOwn = true) (h : Bd A F H (.ref p) b) (e : Same F F') (hf : F' p = none) (hp : H' p = H p) : Bd A F' H' (.ref p) b := by
  cases b with
  | d x => cases o
  | raw => cases o
  | own xs =>
    obtain ⟨q, vs, e0, h1, h2, h3, h4, h5⟩ := h
    cases e0
    exact ⟨p, vs, rfl, hf, h2, by rw [hp]; exact h3, h4, h5.mono e⟩
  | dct kvs =>
    obtain ⟨q, ys, o', e0, h1, h2, h3, h4, h5⟩ := h
    cases e0
    exact ⟨p, ys, o', rfl, hf, h2, by rw [hp]; exact h3, h4, h5.mono e⟩
structure Sim [Wd] (A : Amb) (F H : Hp) (σ : L2.St) (ρ : Rho) : Prop where
  ext : Ext A.F0 A.H0 F H
  len : σ.length = ρ.length
  num : ρ.length = A.n
  val : ∀ (i : Nat) (b : B), ρ[i]? = some (some b) → ∃ v, σ[i]? = some (some v) ∧ Bd A F H v b
  sep : ∀ (i j : Nat) (b c : B) (v : V), i ≠ j → ρ[i]? = some (some b) → ρ[j]? = some (some c) → b.isOwn = true → c.isOwn = true → σ[i]? = some (some v) → σ[j]? ≠ some (some v)
section
variable [Wd] {A : Amb} {F H F' H' : Hp} {σ : L2.St} {ρ : Rho}
theorem Sim.le (S : Sim A F H σ ρ) : Same F H := S.ext.le
theorem Sim.grow (S : Sim A F H σ ρ) (x : Ext F H F' H') : Sim A F' H' σ ρ :=
  ⟨S.ext.trans x, S.len, S.num, fun i b e => let ⟨v, h1, h2⟩ := S.val i b e; ⟨v, h1, Bd.ext x h2⟩, S.sep⟩
/-- a slot takes data -/
theorem Sim.setD (S : Sim A F H σ ρ) {i : Nat} {v : V} {x : D} (h : Is F v x) : Sim A F H (σ.set i (some v)) (ρ.set i (some (.d x))) := by
  refine ⟨S.ext, by simp [S.len], by simp [S.num], fun j b e => ?_, fun j k b c w hjk e1 e2 o1 o2 e3 e4 => ?_⟩
  · by_cases hj : i = j
    · subst hj
      by_cases hi : i < ρ.length
      · rw [List.getElem?_set_self hi] at e
        cases e
        exact ⟨v, by rw [List.getElem?_set_self (by rw [S.len]; exact hi)], h⟩
      · rw [List.getElem?_eq_none (by simpa using hi)] at e; cases e
    · rw [List.getElem?_set_ne hj] at e ⊢
      exact S.val j b e
  · have hj : i ≠ j := fun z => by
      subst z
      by_cases hi : i < ρ.length
      · rw [List.getElem?_set_self hi] at e1; cases e1; cases o1
      · rw [List.getElem?_eq_none (by simpa using hi)] at e1; cases e1
    have hk : i ≠ k := fun z => by
      subst z
      by_cases hi : i < ρ.length
      · rw [List.getElem?_set_self hi] at e2; cases e2; cases o2
      · rw [List.getElem?_eq_none (by simpa using hi)] at e2; cases e2
    rw [List.getElem?_set_ne hj] at e1 e3
    rw [List.getElem?_set_ne hk] at e2 e4
    exact S.sep j k b c w hjk e1 e2 o1 o2 e3 e4
/-- a slot takes a list or dict of one's own that stands nowhere else -/
theorem Sim.setW (S : Sim A F H σ ρ) {i : Nat} {p : Addr} {x : B} (h : Bd A F H (.ref p) x) (hs : ∀ (j : Nat) (b : B), j ≠ i → ρ[j]? = some (some b) → b.isOwn = true → σ[j]? ≠ some (some (.ref p))) :
    Sim A F H (σ.set i (some (.ref p))) (ρ.set i (some x)) := by
  have back : ∀ {j : Nat} {b : B}, i ≠ j → (ρ.set i (some x))[j]? = some (some b) → ρ[j]? = some (some b) := fun hj e => by rw [List.getElem?_set_ne hj] at e; exact e
  refine ⟨S.ext, by simp [S.len], by simp [S.num], fun j b e => ?_, fun j k b c w hjk e1 e2 o1 o2 e3 e4 => ?_⟩
  · by_cases hj : i = j
    · subst hj
      by_cases hi : i < ρ.length
      · rw [List.getElem?_set_self hi] at e
        cases e
        exact ⟨.ref p, by rw [List.getElem?_set_self (by rw [S.len]; exact hi)], h⟩
      · rw [List.getElem?_eq_none (by simpa using hi)] at e; cases e
    · rw [List.getElem?_set_ne hj] at e ⊢
      exact S.val j b e
  · have here : ∀ {j : Nat} {w : V}, j = i → (σ.set i (some (.ref p)))[j]? = some (some w) → w = .ref p := fun {j w} z e => by
      subst z
      by_cases hi : j < σ.length
      · rw [List.getElem?_set_self hi] at e; cases e; rfl
      · rw [List.getElem?_eq_none (by simpa using hi)] at e; cases e
    by_cases hj : i = j
    · have hk : i ≠ k := fun z => hjk (hj.symm.trans z)
      have hw := here hj.symm e3
      subst hw
      rw [List.getElem?_set_ne hk] at e4
      exact hs k c (Ne.symm hk) (back hk e2) o2 e4
    · by_cases hk : i = k
      · have hw := here hk.symm e4
        subst hw
        rw [List.getElem?_set_ne hj] at e3
        exact hs j b (Ne.symm hj) (back hj e1) o1 e3
      · rw [List.getElem?_set_ne hj] at e3
        rw [List.getElem?_set_ne hk] at e4
        exact S.sep j k b c w hjk (back hj e1) (back hk e2) o1 o2 e3 e4
theorem Sim.setO (S : Sim A F H σ ρ) {i : Nat} {p : Addr} {xs : List D} (h : OwnL A F H (.ref p) xs) (hs : ∀ (j : Nat) (b : B), j ≠ i → ρ[j]? = some (some b) → b.isOwn = true → σ[j]? ≠ some (some (.ref p))) :
    Sim A F H (σ.set i (some (.ref p))) (ρ.set i (some (.own xs))) := S.setW (x := .own xs) h hs
/-- a slot is forgotten -/
theorem Sim.drop (S : Sim A F H σ ρ) (i : Nat) (x : Option V) : Sim A F H (σ.set i x) (ρ.set i none) := by
  have back : ∀ {j : Nat} {b : B}, (ρ.set i none)[j]? = some (some b) → i ≠ j ∧ ρ[j]? = some (some b) := fun {j b} e => by
    by_cases hj : i = j
    · subst hj
      by_cases hi : i < ρ.length
      · rw [List.getElem?_set_self hi] at e; cases e
      · rw [List.getElem?_eq_none (by simpa using hi)] at e; cases e
    · rw [List.getElem?_set_ne hj] at e; exact ⟨hj, e⟩
  refine ⟨S.ext, by simp [S.len], by simp [S.num], fun j b e => ?_, fun j k b c w hjk e1 e2 o1 o2 e3 e4 => ?_⟩
  · obtain ⟨hj, e⟩ := back e
    rw [List.getElem?_set_ne hj]
    exact S.val j b e
  · obtain ⟨hj, e1⟩ := back e1
    obtain ⟨hk, e2⟩ := back e2
    rw [List.getElem?_set_ne hj] at e3
    rw [List.getElem?_set_ne hk] at e4
    exact S.sep j k b c w hjk e1 e2 o1 o2 e3 e4
/-- an own list's address is new, so it stands in no other slot -/
theorem Sim.new (S : Sim A F H σ ρ) {p : Addr} (h : H p = none) : ∀ (j : Nat) (b : B), ρ[j]? = some (some b) → b.isOwn = true → σ[j]? ≠ some (some (V.ref p)) := fun j b e o z => by
  obtain ⟨v, e1, e2⟩ := S.val j b e
  rw [z] at e1
  cases e1
  obtain ⟨q, ob, e3, _, _, hp⟩ := Bd.at o e2
  cases e3
  rw [h] at hp
  cases hp
/-- an own list is frozen -/
theorem Sim.freeze (S : Sim A F H σ ρ) {i : Nat} {xs : List D} (h : ρ[i]? = some (some (.own xs))) : ∃ F', Ext F F F' H ∧ Sim A F' H σ (ρ.set i (some (.d (.list xs)))) := by
  obtain ⟨v, e1, p, vs, rfl, hf, h0, hp, hz, hA⟩ := S.val i _ h
  refine ⟨upd F p (.lst vs), ?_, ?_⟩
  · refine ⟨same_upd hf, S.le, fun b y e => ?_, fun b y e e2 => by rw [e] at e2; cases e2⟩
    by_cases hb : b = p
    · subst hb; rw [upd_same] at e; rw [hp]; exact e
    · rw [upd_ne hb] at e; exact S.le _ _ e
  · refine ⟨S.ext.freeze hf h0 hp, by simp [S.len], by simp [S.num], fun j b e => ?_, fun j k b c w hjk e1 e2 o1 o2 e3 e4 => ?_⟩
    · by_cases hj : i = j
      · subst hj
        have hi : i < ρ.length := (List.getElem?_eq_some_iff.mp h).1
        rw [List.getElem?_set_self hi] at e
        cases e
        exact ⟨.ref p, e1, .lst (.inl upd_same) hz (hA.mono (same_upd hf))⟩
      · rw [List.getElem?_set_ne hj] at e
        obtain ⟨w, e2, e3⟩ := S.val j b e
        refine ⟨w, e2, ?_⟩
        cases ho : b.isOwn with
        | false => cases b with
          | d x => exact Is.mono (same_upd hf) e3
          | raw => exact e3
          | _ => cases ho
        | true =>
          obtain ⟨q, ob, e4, gf, g0, gp⟩ := Bd.at ho e3
          subst e4
          have hq : q ≠ p := fun z => by
            subst z
            exact S.sep i j _ _ _ hj h e rfl ho e1 e2
          exact Bd.move ho e3 (same_upd hf) (by rw [upd_ne hq]; exact gf) rfl
    · have hj : i ≠ j := fun z => by
        subst z
        have hi : i < ρ.length := (List.getElem?_eq_some_iff.mp h).1
        rw [List.getElem?_set_self hi] at e1; cases e1; cases o1
      have hk : i ≠ k := fun z => by
        subst z
        have hi : i < ρ.length := (List.getElem?_eq_some_iff.mp h).1
        rw [List.getElem?_set_self hi] at e2; cases e2; cases o2
      rw [List.getElem?_set_ne hj] at e1
      rw [List.getElem?_set_ne hk] at e2
      exact S.sep j k b c w hjk e1 e2 o1 o2 e3 e4
end
end DL

/-! The data layer, part 2: the judgements for expressions, the rules. -/
namespace DL
open PySem PySem.Spec PyProof.Rows L2

/-- data that is read at once: a list may be one of one's own -/
inductive IsH [Wd] (F H : Hp) : V → D → Prop
  | of {v : V} {d : D} (h : Is F v d) : IsH F H v d
  | lst {p : Addr} {vs : List V} {ds : List D} (h : Rd H p (.lst vs)) (z : vs.length ≤ sizeLine) (t : IsA F vs ds) : IsH F H (.ref p) (.list ds)
section
variable [Wd] {F H F' H' : Hp} {v : V}
theorem IsH.ext {d : D} (x : Ext F H F' H') : IsH F H v d → IsH F' H' v d
  | .of h => .of (h.mono x.up)
  | .lst h z t => .lst (Rd.mono x.keep h) z (t.mono x.up)
theorem IsH.list {ds : List D} (le : Same F H) (h : IsH F H v (.list ds)) : ∃ p vs, v = .ref p ∧ Rd H p (.lst vs) ∧ vs.length ≤ sizeLine ∧ IsA F vs ds := by
  cases h with
  | of h => cases h with | lst h z t => exact ⟨_, _, rfl, Rd.mono le h, z, t⟩
  | lst h z t => exact ⟨_, _, rfl, h, z, t⟩
theorem IsH.tup {ds : List D} (le : Same F H) (h : IsH F H v (.tuple ds)) : ∃ p vs, v = .ref p ∧ Rd H p (.tup vs) ∧ vs.length ≤ sizeLine ∧ IsA F vs ds := by
  cases h with
  | of h => cases h with | tup h z t => exact ⟨_, _, rfl, Rd.mono le h, z, t⟩
theorem IsH.int {i : Int} (h : IsH F H v (.int i)) : v = .int i := by
  cases h with
  | of h => cases h; rfl
theorem IsH.bl {b : Bool} (h : IsH F H v (.bool b)) : v = .bl b := by
  cases h with
  | of h => cases h; rfl
theorem IsH.str {x : Str} (h : IsH F H v (.str x)) : v = .str x := by
  cases h with
  | of h => cases h; rfl
theorem IsH.non (h : IsH F H v .none) : v = .non := by
  cases h with
  | of h => cases h; rfl
theorem IsH.dp {K : PySem.W.Frag} {d : D} (le : Same F H) (h : IsH F H v d) (n : noDct d = true) : Dp K H v d := by
  cases h with
  | of h => exact (h.mono le).dp n
  | lst h z t => exact .lst (.inl h) ((t.mono le).dp (by simpa [noDct] using n))
end

/-! ### readings -/
section
variable [Wd] (A : Amb) (W : WX)
/-- what follows an exception -/
def Pex (F H : Hp) (σ : L2.St) (c : Exc) : Prop := ∀ cls dd F' H', Ext F H F' H' → Zx A.Z c cls dd F' → W cls dd σ H'
/-- an expression gives frozen data -/
def tD (f : Rho → Res D) : TE := fun σ H Q => ∃ F ρ, Sim A F H σ ρ ∧ match f ρ with
  | .ok d => ∀ v F' H', Ext F H F' H' → Is F' v d → Q v H'
  | .ex c => Pex A W F H σ c
  | .bad => False
/-- .. data to be read at once -/
def tB (f : Rho → Res D) : TE := fun σ H Q => ∃ F ρ, Sim A F H σ ρ ∧ match f ρ with
  | .ok d => ∀ v F' H', Ext F H F' H' → IsH F' H' v d → Q v H'
  | .ex c => Pex A W F H σ c
  | .bad => False
/-- .. a new list that nobody holds -/
def tO (f : Rho → Res (List D)) : TE := fun σ H Q => ∃ F ρ, Sim A F H σ ρ ∧ match f ρ with
  | .ok ds => ∀ p vs F' H', Ext F H F' H' → F' p = none → H p = none → H' p = some (.lst vs) → vs.length ≤ sizeLine → IsA F' vs ds → Q (.ref p) H'
  | .ex c => Pex A W F H σ c
  | .bad => False
/-- a test -/
def tT (f : Rho → Res Bool) : TT := fun σ H Q => ∃ F ρ, Sim A F H σ ρ ∧ match f ρ with
  | .ok b => ∀ F' H', Ext F H F' H' → Q b H'
  | .ex c => Pex A W F H σ c
  | .bad => False
/-- arguments -/
def tAs (f : Rho → Res (List D)) : TA := fun σ H Q => ∃ F ρ, Sim A F H σ ρ ∧ match f ρ with
  | .ok ds => ∀ vs F' H', Ext F H F' H' → IsA F' vs ds → Q vs H'
  | .ex c => Pex A W F H σ c
  | .bad => False
/-- .. that are read at once -/
inductive IsHA [Wd] (F H : Hp) : List V → List D → Prop
  | nil : IsHA F H [] []
  | cons {v : V} {vs : List V} {d : D} {ds : List D} : IsH F H v d → IsHA F H vs ds → IsHA F H (v :: vs) (d :: ds)
def tBs (f : Rho → Res (List D)) : TA := fun σ H Q => ∃ F ρ, Sim A F H σ ρ ∧ match f ρ with
  | .ok ds => ∀ vs F' H', Ext F H F' H' → IsHA F' H' vs ds → Q vs H'
  | .ex c => Pex A W F H σ c
  | .bad => False
end
theorem Pex.ext [Wd] {A : Amb} {W : WX} {F H F' H' : Hp} {σ : L2.St} {c : Exc} (x : Ext F H F' H') (h : Pex A W F H σ c) : Pex A W F' H' σ c := fun cls dd F2 H2 y z => h cls dd F2 H2 (x.trans y) z
theorem peI [Wd] {X : Cx} {e : Expr} {t t' : TE} (h : PE X e t) (i : ∀ σ H Q, t' σ H Q → t σ H Q) : PE X e t' := ⟨fun pins s σ H Q I q => h.run pins s σ H Q I (i _ _ _ q)⟩
theorem ptI [Wd] {X : Cx} {e : Expr} {t t' : TT} (h : PT X e t) (i : ∀ σ H Q, t' σ H Q → t σ H Q) : PT X e t' := ⟨fun pins s σ H Q I q => h.run pins s σ H Q I (i _ _ _ q)⟩
theorem pwI [Wd] {X : Cx} {e : Expr} {t t' : TT} (h : PW X e t) (i : ∀ σ H Q, t' σ H Q → t σ H Q) : PW X e t' := ⟨fun wh pins s σ H Q I q => h.run wh pins s σ H Q I (i _ _ _ q)⟩
theorem paI [Wd] {X : Cx} {es : List Expr} {t t' : TA} (h : PA X es t) (i : ∀ σ H Q, t' σ H Q → t σ H Q) : PA X es t' := ⟨fun pos pins s σ H Q I q => h.run pos pins s σ H Q I (i _ _ _ q)⟩
abbrev DE [Wd] (X : Cx) (A : Amb) (W : WX) (e : Expr) (f : Rho → Res D) : Prop := PE X e (tD A W f)
abbrev BE [Wd] (X : Cx) (A : Amb) (W : WX) (e : Expr) (f : Rho → Res D) : Prop := PE X e (tB A W f)
abbrev OE [Wd] (X : Cx) (A : Amb) (W : WX) (e : Expr) (f : Rho → Res (List D)) : Prop := PE X e (tO A W f)
abbrev DT [Wd] (X : Cx) (A : Amb) (W : WX) (e : Expr) (f : Rho → Res Bool) : Prop := PT X e (tT A W f)
abbrev DAs [Wd] (X : Cx) (A : Amb) (W : WX) (es : List Expr) (f : Rho → Res (List D)) : Prop := PA X es (tAs A W f)
abbrev BAs [Wd] (X : Cx) (A : Amb) (W : WX) (es : List Expr) (f : Rho → Res (List D)) : Prop := PA X es (tBs A W f)

/-! ### one kind of reading into another -/
section
variable [Wd] {X : Cx} {A : Amb} {W : WX} {e : Expr}
theorem b_d {f : Rho → Res D} (h : DE X A W e f) : BE X A W e f := peI h fun σ H Q ⟨F, ρ, S, q⟩ => ⟨F, ρ, S, by
  cases hf : f ρ with
  | ok d => rw [hf] at q; exact fun v F' H' x i => q v F' H' x (.of i)
  | ex c => rw [hf] at q; exact q
  | bad => rw [hf] at q; exact q⟩
def frz (f : Rho → Res (List D)) : Rho → Res D := fun ρ => (f ρ).map PyData.list
theorem d_o {f : Rho → Res (List D)} (h : OE X A W e f) : DE X A W e (frz f) := peI h fun σ H Q ⟨F, ρ, S, q⟩ => ⟨F, ρ, S, by
  unfold frz at q
  cases hf : f ρ with
  | ok ds =>
    rw [hf] at q
    exact fun p vs F' H' x hp hn hH hz hi => q (.ref p) _ H' (x.freeze hp hn hH) (.lst (.inl upd_same) hz (hi.mono (same_upd hp)))
  | ex c => rw [hf] at q; exact q
  | bad => rw [hf] at q; exact q⟩
theorem b_o {f : Rho → Res (List D)} (h : OE X A W e f) : BE X A W e (frz f) := b_d (d_o h)
end

/-! ### names, constants -/
def rd (i : Nat) : Rho → Res D := fun ρ => match ρ[i]? with
  | some (some (.d x)) => .ok x
  | _ => .bad
def rdB (i : Nat) : Rho → Res D := fun ρ => match ρ[i]? with
  | some (some (.d x)) => .ok x
  | some (some (.own xs)) => .ok (.list xs)
  | _ => .bad
def kst (d : D) : Rho → Res D := fun _ => .ok d
section
variable [Wd] {X : Cx} {A : Amb} {W : WX}
theorem d_v (i : Nat) {x : Str} {pos : Pos} (hN : X.N[i]? = some x := by rfl) (hv : Vis X.env.scope x := by first | exact Or.inl rfl | exact Or.inr (Or.inl rfl) | exact Or.inr (Or.inr rfl)) (hd : (x == ("__debug__" : Str)) = false := by decide)
    (hcd : (x == ("__classdict__" : Str)) = false := by decide) : DE X A W (.Name x pos) (rd i) := peI (pe_var hN hv hd hcd) fun σ H Q ⟨F, ρ, S, q⟩ => by
  cases hr : ρ[i]? with
  | none => simp [rd, hr] at q
  | some o =>
    cases o with
    | none => simp [rd, hr] at q
    | some b =>
      obtain ⟨v, e1, e2⟩ := S.val i _ hr
      cases b with
      | d x => simp only [rd, hr] at q; exact ⟨v, e1, q v F H (.refl S.le) e2⟩
      | own xs => simp [rd, hr] at q
      | dct xs => simp [rd, hr] at q
      | raw => simp [rd, hr] at q
theorem b_v (i : Nat) {x : Str} {pos : Pos} (hN : X.N[i]? = some x := by rfl) (hv : Vis X.env.scope x := by first | exact Or.inl rfl | exact Or.inr (Or.inl rfl) | exact Or.inr (Or.inr rfl)) (hd : (x == ("__debug__" : Str)) = false := by decide)
    (hcd : (x == ("__classdict__" : Str)) = false := by decide) : BE X A W (.Name x pos) (rdB i) := peI (pe_var hN hv hd hcd) fun σ H Q ⟨F, ρ, S, q⟩ => by
  cases hr : ρ[i]? with
  | none => simp [rdB, hr] at q
  | some o =>
    cases o with
    | none => simp [rdB, hr] at q
    | some b =>
      obtain ⟨v, e1, e2⟩ := S.val i _ hr
      cases b with
      | d x => simp only [rdB, hr] at q; exact ⟨v, e1, q v F H (.refl S.le) (.of e2)⟩
      | own xs =>
        simp only [rdB, hr] at q
        obtain ⟨p, vs, rfl, hf, h0, hp, hz, hi⟩ := e2
        exact ⟨_, e1, q _ F H (.refl S.le) (.lst (.inl hp) hz hi)⟩
      | dct xs => simp [rdB, hr] at q
      | raw => simp [rdB, hr] at q
theorem d_const {e : Expr} {v : V} {d : D} (h : PE X e (tC v)) (i : ∀ F, Is F v d) : DE X A W e (kst d) := peI h fun σ H Q ⟨F, ρ, S, q⟩ => q v F H (.refl S.le) (i _)
theorem d_int {i j pos} : DE X A W (.Constant (.int i) j pos) (kst (.int i)) := d_const pe_int fun _ => .int _
theorem d_bl {b j pos} : DE X A W (.Constant (.bool b) j pos) (kst (.bool b)) := d_const pe_bl fun _ => .bl _
theorem d_non {j pos} : DE X A W (.Constant .none j pos) (kst .none) := d_const pe_non fun _ => .non
theorem d_str {x j pos} : DE X A W (.Constant (.str x) j pos) (kst (.str x)) := d_const pe_str fun _ => .str _
/-- a module's constant -/
theorem d_glob {x : Str} {v : V} {d : D} {u : Value} {pos : Pos} (hg : Gl X x) (hm : X.mg x = some u) (r : RelV v u) (i : ∀ F, Is F v d) (hd : (x == ("__debug__" : Str)) = false := by decide) : DE X A W (.Name x pos) (kst d) :=
  d_const (pe_glob hg hm r hd) i
end
end DL

/-! The data layer, part 3: operators, built-ins, subscripts, slices. -/
namespace DL
open PySem PySem.Spec PyProof.Rows L2

/-! ### rules by data -/
/-- two data in, frozen data out -/
def rD [Wd] (g : D → D → Option D) : R2 := fun x y H Q => ∃ F a b d, Same F H ∧ IsH F H x a ∧ IsH F H y b ∧ g a b = some d ∧ ∀ v F' H', Ext F H F' H' → Is F' v d → Q v H'
/-- .. a new list out -/
def rO [Wd] (g : D → D → Option (List D)) : R2 := fun x y H Q => ∃ F a b ds, Same F H ∧ IsH F H x a ∧ IsH F H y b ∧ g a b = some ds ∧
  ∀ p vs F' H', Ext F H F' H' → F' p = none → H p = none → H' p = some (.lst vs) → vs.length ≤ sizeLine → IsA F' vs ds → Q (.ref p) H'
/-- a call's data in, frozen data out -/
def cD [Wd] (g : List D → Option D) : List V → Hp → VK → Prop := fun xs H Q => ∃ F as d, Same F H ∧ IsHA F H xs as ∧ g as = some d ∧ ∀ v F' H', Ext F H F' H' → Is F' v d → Q v H'
def cO [Wd] (g : List D → Option (List D)) : List V → Hp → VK → Prop := fun xs H Q => ∃ F as ds, Same F H ∧ IsHA F H xs as ∧ g as = some ds ∧
  ∀ p vs F' H', Ext F H F' H' → F' p = none → H p = none → H' p = some (.lst vs) → vs.length ≤ sizeLine → IsA F' vs ds → Q (.ref p) H'

def op2 {α : Type} (g : D → D → Option α) (fa fb : Rho → Res D) : Rho → Res α := fun ρ => (fa ρ).bind fun a => (fb ρ).bind fun b => .of (g a b)
section
variable [Wd] {X : Cx} {A : Amb} {W : WX} {a b : Expr} {fa fb : Rho → Res D}
theorem op2_run {r : R2} {α : Type} {g : D → D → Option α} {σ : L2.St} {H : Hp} {Q : VK} {F : Hp} {ρ : Rho} (S : Sim A F H σ ρ)
    (q : match op2 g fa fb ρ with
      | .ok d => ∀ x y F' H' a b, Ext F H F' H' → IsH F' H' x a → IsH F' H' y b → g a b = some d → r x y H' Q
      | .ex c => Pex A W F H σ c
      | .bad => False) : tOp r (tB A W fa) (tB A W fb) σ H Q := by
  unfold op2 at q
  refine ⟨F, ρ, S, ?_⟩
  cases ha : fa ρ with
  | bad => rw [ha] at q; exact q
  | ex c => rw [ha] at q; exact q
  | ok da =>
    rw [ha] at q
    intro x F1 H1 x1 i1
    refine ⟨F1, ρ, S.grow x1, ?_⟩
    cases hb : fb ρ with
    | bad => simp only [hb, Res.bind_ok, Res.bind_bad] at q
    | ex c => simp only [hb, Res.bind_ok, Res.bind_ex] at q; exact q.ext x1
    | ok db =>
      simp only [hb, Res.bind_ok] at q
      intro y F2 H2 x2 i2
      cases hg : g da db with
      | none => rw [hg] at q; exact q.elim
      | some d => rw [hg] at q; exact q x y F2 H2 da db (x1.trans x2) (i1.ext x2) i2 hg
theorem op2_D {g : D → D → Option D} {σ : L2.St} {H : Hp} {Q : VK} (h : tD A W (op2 g fa fb) σ H Q) : tOp (rD g) (tB A W fa) (tB A W fb) σ H Q := by
  obtain ⟨F, ρ, S, q⟩ := h
  refine op2_run (g := g) S ?_
  cases ho : op2 g fa fb ρ with
  | bad => rw [ho] at q; exact q
  | ex c => rw [ho] at q; exact q
  | ok d =>
    rw [ho] at q
    exact fun x y F' H' a b x1 i1 i2 hg => ⟨F', a, b, d, x1.le, i1, i2, hg, fun v F2 H2 x2 i => q v F2 H2 (x1.trans x2) i⟩
theorem op2_O {g : D → D → Option (List D)} {σ : L2.St} {H : Hp} {Q : VK} (h : tO A W (op2 g fa fb) σ H Q) : tOp (rO g) (tB A W fa) (tB A W fb) σ H Q := by
  obtain ⟨F, ρ, S, q⟩ := h
  refine op2_run (g := g) S ?_
  cases ho : op2 g fa fb ρ with
  | bad => rw [ho] at q; exact q
  | ex c => rw [ho] at q; exact q
  | ok d =>
    rw [ho] at q
    exact fun x y F' H' a b x1 i1 i2 hg => ⟨F', a, b, d, x1.le, i1, i2, hg, fun p vs F2 H2 x2 h1 h2 h3 h4 h5 => q p vs F2 H2 (x1.trans x2) h1 (Same.free x1.keep h2) h3 h4 h5⟩
theorem d_op {op : Operator} {g : D → D → Option D} {pos : Pos} (ho : OpR X (binaryOp op) (rD g)) (ha : BE X A W a fa) (hb : BE X A W b fb) : DE X A W (.BinOp a op b pos) (op2 g fa fb) :=
  peI (pe_op ho ha hb) fun σ H Q h => op2_D h
theorem o_op {op : Operator} {g : D → D → Option (List D)} {pos : Pos} (ho : OpR X (binaryOp op) (rO g)) (ha : BE X A W a fa) (hb : BE X A W b fb) : OE X A W (.BinOp a op b pos) (op2 g fa fb) :=
  peI (pe_op ho ha hb) fun σ H Q h => op2_O h
theorem d_cmp {op : CmpOp} {g : D → D → Option D} {pos : Pos} (ho : OpR X (compareOp op) (rD g)) (ha : BE X A W a fa) (hb : BE X A W b fb) (hm : behindInMarks op b = false) : DE X A W (.Compare a [op] [b] pos) (op2 g fa fb) :=
  peI (pe_cmpR ho ha hb hm) fun σ H Q h => op2_D h
theorem d_ix {g : D → D → Option D} {pos : Pos} (ho : IxR X (rD g)) (ha : BE X A W a fa) (hb : BE X A W b fb) (hs : PlainIx b) : DE X A W (.Subscript a b pos) (op2 g fa fb) :=
  peI (pe_ix ho ha hb hs) fun σ H Q h => op2_D h
end

/-! ### arithmetic, joining -/
def addD : D → D → Option D
  | .int i, .int j => some (.int (i + j))
  | .str x, .str y => if x.length + y.length ≤ sizeLine then some (.str (x ++ y)) else none
  | .list xs, .list ys => if xs.length + ys.length ≤ sizeLine then some (.list (xs ++ ys)) else none
  | .tuple xs, .tuple ys => if xs.length + ys.length ≤ sizeLine then some (.tuple (xs ++ ys)) else none
  | _, _ => none
def catD : D → D → Option (List D)
  | .list xs, .list ys => if xs.length + ys.length ≤ sizeLine then some (xs ++ ys) else none
  | _, _ => none
def intD (c : Int → Int → Bool) (g : Int → Int → Int) : D → D → Option D
  | .int i, .int j => if c i j = true then some (.int (g i j)) else none
  | _, _ => none
abbrev subD : D → D → Option D := intD (fun _ _ => true) fun i j => i - j
def smallI (i : Int) : Bool := Nat.blt i.natAbs 18446744073709551616
abbrev mulD : D → D → Option D := intD (fun i j => smallI i || smallI j) fun i j => i * j
abbrev modD : D → D → Option D := intD (fun _ j => decide (0 < j)) fun i j => i % j
abbrev divD : D → D → Option D := intD (fun _ j => decide (0 < j) && decide (j < 1073741824)) fun i j => i / j
abbrev shrD : D → D → Option D := intD (fun _ j => decide (0 ≤ j)) fun i j => i / 2 ^ j.toNat
section
variable [Wd] {X : Cx} {pins : List (Addr × Obj)} {σ : L2.St} {H : Hp} {s : Shared}
theorem Inv.lstR {p : Addr} {xs : List V} (I : Inv X pins σ H s) (h : Rd H p (.lst xs)) : xs.length ≤ sizeLine ∧ ∃ (its : List Value) (n : Nat), Vals xs its ∧ xs.length = its.length ∧ s.heap.get? p = some { cls := .type "list", data := .seq its.toArray n } := by
  obtain ⟨z, its, n, r, e⟩ := h.ok I.hok
  exact ⟨z, its, n, r, r.length, e⟩
/-- xs + ys -/
def rCatR : R2 := fun x y H Q => ∃ l b xs zs, x = .ref l ∧ y = .ref b ∧ Rd H l (.lst xs) ∧ Rd H b (.lst zs) ∧ xs.length + zs.length ≤ sizeLine ∧ ∀ p, H p = none → Q (.ref p) (upd H p (.lst (xs ++ zs)))
theorem op_catR : OpR X (binaryOp .Add) rCatR := by
  intro pins s σ H x y v u Q I rx ry h
  obtain ⟨l, b, xs, zs, rfl, rfl, hH, hB, hz, q⟩ := h
  cases rx
  cases ry
  obtain ⟨z, its, n, r, hl, e⟩ := Inv.lstR I hH
  obtain ⟨z2, its2, n2, r2, hl2, e2⟩ := Inv.lstR I hB
  refine PySem.P.add_list e e2 ?_ (by rw [List.size_toArray, List.size_toArray]; omega)
  have ea : its.toArray ++ its2.toArray = (its ++ its2).toArray := by simp
  rw [ea]
  exact ⟨.ref _, _, I.lnew (t' := s.toks) (r.append r2) (by rw [List.length_append]; omega), rfl, q _ I.fresh⟩
end
section
variable [Wd] {X : Cx}
theorem o_cat : OpR X (binaryOp .Add) (rO catD) := by
  intro pins s σ H x y v u Q I rx ry h
  obtain ⟨F, a, b, ds, le, ia, ib, e, q⟩ := h
  unfold catD at e
  split at e
  · rename_i xs ys
    split at e
    · rename_i hz
      cases e
      obtain ⟨p, vs, rfl, hp, z, t⟩ := ia.list le
      obtain ⟨p', vs', rfl, hp', z', t'⟩ := ib.list le
      have hl : vs.length + vs'.length ≤ sizeLine := by rw [t.length, t'.length]; exact hz
      exact op_catR pins s σ H _ _ v u Q I rx ry ⟨p, p', vs, vs', rfl, rfl, hp, hp', hl, fun l hn => q l _ F _ (.fresh le hn) (none_of_le le hn) hn upd_same (by rw [List.length_append]; exact hl) (t.append t')⟩
    · cases e
  · cases e
theorem Is.newT {F H : Hp} {p : Addr} {vs : List V} {ds : List D} (le : Same F H) (hn : H p = none) (z : vs.length ≤ sizeLine) (t : IsA F vs ds) : Is (upd F p (.tup vs)) (.ref p) (.tuple ds) :=
  .tup (.inl upd_same) z (t.mono (same_upd (none_of_le le hn)))
theorem Is.newL {F H : Hp} {p : Addr} {vs : List V} {ds : List D} (le : Same F H) (hn : H p = none) (z : vs.length ≤ sizeLine) (t : IsA F vs ds) : Is (upd F p (.lst vs)) (.ref p) (.list ds) :=
  .lst (.inl upd_same) z (t.mono (same_upd (none_of_le le hn)))
/-- a list nobody holds, frozen -/
theorem frozen {F H F' H' : Hp} {p : Addr} {vs : List V} {ds : List D} {Q : VK} (q : ∀ v F' H', Ext F H F' H' → Is F' v (.list ds) → Q v H') (x : Ext F H F' H') (hf : F' p = none) (hn : H p = none) (hp : H' p = some (.lst vs)) (z : vs.length ≤ sizeLine) (t : IsA F' vs ds) : Q (.ref p) H' :=
  q _ _ _ (x.freeze hf hn hp) (.lst (.inl upd_same) z (t.mono (same_upd hf)))
theorem IsH.tupIs {F H : Hp} {v : V} {ds : List D} (h : IsH F H v (.tuple ds)) : Is F v (.tuple ds) := by
  cases h with | of h => exact h
theorem o_add : OpR X (binaryOp .Add) (rD addD) := by
  intro pins s σ H x y v u Q I rx ry h
  obtain ⟨F, a, b, d, le, ia, ib, e, q⟩ := h
  unfold addD at e
  split at e
  · cases e
    have e1 := ia.int
    have e2 := ib.int
    subst e1 e2
    exact op_add pins s σ H _ _ v u Q I rx ry ⟨_, _, rfl, rfl, q _ F H (.refl le) (.int _)⟩
  · split at e
    · rename_i hz
      cases e
      have e1 := ia.str
      have e2 := ib.str
      subst e1 e2
      exact op_add_str pins s σ H _ _ v u Q I rx ry ⟨_, _, rfl, rfl, hz, q _ F H (.refl le) (.str _)⟩
    · cases e
  · split at e
    · rename_i hz
      cases e
      refine o_cat pins s σ H _ _ v u Q I rx ry ⟨F, _, _, _, le, ia, ib, if_pos hz, fun p vs F' H' x hf hn hp z t => frozen q x hf hn hp z t⟩
    · cases e
  · rename_i xs ys
    split at e
    · rename_i hz
      cases e
      obtain ⟨p, vs, rfl, hp, z, t⟩ := ia.tup le
      obtain ⟨p', vs', rfl, hp', z', t'⟩ := ib.tup le
      have hl : vs.length + vs'.length ≤ sizeLine := by rw [t.length, t'.length]; exact hz
      refine op_catA pins s σ H _ _ v u Q I rx ry ⟨p, p', vs, vs', rfl, rfl, .inl hp, .inl hp', hl, fun z0 => ?_, fun z0 z1 => ?_, fun _ _ l hn => ?_⟩
      · have : xs = [] := by
          subst z0
          cases t
          rfl
        subst this
        exact q _ F H (.refl le) ib.tupIs
      · have : ys = [] := by
          subst z1
          cases t'
          rfl
        subst this
        rw [List.append_nil] at q
        exact q _ F H (.refl le) ia.tupIs
      · exact q _ _ _ (.laid le hn) (.newT le hn (by rw [List.length_append]; exact hl) (t.append t'))
    · cases e
  · cases e
theorem o_intI {f : Value → Value → Sem Value} {c : Int → Int → Bool} {g : Int → Int → Int} {C : Int → Int → Prop} (hc : ∀ i j, c i j = true → C i j) (ho : OpR X f (rI C fun i j => .int (g i j))) : OpR X f (rD (intD c g)) := by
  intro pins s σ H x y v u Q I rx ry h
  obtain ⟨F, a, b, d, le, ia, ib, e, q⟩ := h
  unfold intD at e
  split at e
  · split at e
    · rename_i hh
      cases e
      have e1 := ia.int
      have e2 := ib.int
      subst e1 e2
      exact ho pins s σ H _ _ v u Q I rx ry ⟨_, _, rfl, rfl, hc _ _ hh, q _ F H (.refl le) (.int _)⟩
    · cases e
  · cases e
theorem o_intI0 {f : Value → Value → Sem Value} {g : Int → Int → Int} (ho : OpR X f (rI0 fun i j => .int (g i j))) : OpR X f (rD (intD (fun _ _ => true) g)) :=
  o_intI (C := fun _ _ => True) (fun _ _ _ => trivial) fun pins s σ H x y v u Q I rx ry h => ho pins s σ H x y v u Q I rx ry (let ⟨i, j, e1, e2, _, q⟩ := h; ⟨i, j, e1, e2, q⟩)
theorem o_sub : OpR X (binaryOp .Sub) (rD subD) := o_intI0 op_sub
theorem smallI_ok {i : Int} (h : smallI i = true) : -(2 ^ 64) < i ∧ i < 2 ^ 64 := by
  unfold smallI at h
  rw [Nat.blt_eq] at h
  omega
theorem o_mul : OpR X (binaryOp .Mult) (rD mulD) := o_intI (fun i j h => by
  rcases (Bool.or_eq_true _ _).mp h with h | h
  · exact .inl (smallI_ok h)
  · exact .inr (smallI_ok h)) op_mul
theorem o_mod : OpR X (binaryOp .Mod) (rD modD) := o_intI (fun i j h => of_decide_eq_true h) op_mod
theorem o_div : OpR X (binaryOp .FloorDiv) (rD divD) := o_intI (fun i j h => by
  rw [Bool.and_eq_true] at h
  exact ⟨of_decide_eq_true h.1, of_decide_eq_true h.2⟩) op_fdiv
theorem o_shr : OpR X (binaryOp .RShift) (rD shrD) := o_intI (fun i j h => of_decide_eq_true h) op_shr
theorem o_iadd : OpR X (inplaceOp .Add) (rD (intD (fun _ _ => true) fun i j => i + j)) := o_intI0 iop_add
end

/-! ### comparisons -/
def cmpI (p : Int → Int → Bool) : D → D → Option D
  | .int i, .int j => some (.bool (p i j))
  | _, _ => none
abbrev ltD : D → D → Option D := cmpI fun i j => decide (i < j)
abbrev leD : D → D → Option D := cmpI fun i j => decide (i ≤ j)
abbrev gtD : D → D → Option D := cmpI fun i j => decide (j < i)
abbrev geD : D → D → Option D := cmpI fun i j => decide (j ≤ i)
def eqD : D → D → Option D := fun a b => if SeqAt.shaped a = true ∧ SeqAt.shaped b = true then some (.bool (PyData.eqv a b)) else none
def neD : D → D → Option D := fun a b => if SeqAt.shaped a = true ∧ SeqAt.shaped b = true then some (.bool (!PyData.eqv a b)) else none
def isNoneD : D → D → Option D
  | d, .none => some (.bool (match d with | .none => true | _ => false))
  | _, _ => none
def isNotNoneD : D → D → Option D
  | d, .none => some (.bool (match d with | .none => false | _ => true))
  | _, _ => none
section
variable [Wd] {X : Cx}
theorem o_cmpI {f : Value → Value → Sem Value} {p : Int → Int → Bool} (ho : ∀ (i j : Int) (t u : Tok) (Q : Value → Shared → Prop) (s : Shared), Q (.bool (p i j)) s → wpAny (model X.prog X.w) X.A (f (.int i t) (.int j u)) Q X.xe s) : OpR X f (rD (cmpI p)) := by
  intro pins s σ H x y v u Q I rx ry h
  obtain ⟨F, a, b, d, le, ia, ib, e, q⟩ := h
  unfold cmpI at e
  split at e
  · cases e
    have e1 := ia.int
    have e2 := ib.int
    subst e1 e2
    obtain ⟨t, rfl⟩ := rx
    obtain ⟨t', rfl⟩ := ry
    exact ho _ _ t t' _ s ⟨.bl _, H, I, rfl, q _ F H (.refl le) (.bl _)⟩
  · cases e
theorem o_lt : OpR X (compareOp .Lt) (rD ltD) := o_cmpI fun _ _ _ _ _ _ h => lt_int h
theorem o_le : OpR X (compareOp .LtE) (rD leD) := o_cmpI fun _ _ _ _ _ _ h => le_int h
theorem o_gt : OpR X (compareOp .Gt) (rD gtD) := o_cmpI fun _ _ _ _ _ _ h => gt_int h
theorem o_ge : OpR X (compareOp .GtE) (rD geD) := o_cmpI fun _ _ _ _ _ _ h => ge_int h
theorem o_eq (hu : X.A.units + 64 < cLine) : OpR X (compareOp .Eq) (rD eqD) := by
  intro pins s σ H x y v u Q I rx ry h
  obtain ⟨F, a, b, d, le, ia, ib, e, q⟩ := h
  unfold eqD at e
  split at e
  · rename_i hs
    cases e
    exact op_eqD hu pins s σ H x y v u Q I rx ry ⟨a, b, ia.dp le (noDct_shaped hs.1), ib.dp le (noDct_shaped hs.2), hs.1, hs.2, q _ F H (.refl le) (.bl _)⟩
  · cases e
theorem o_ne (hu : X.A.units + 64 < cLine) : OpR X (compareOp .NotEq) (rD neD) := by
  intro pins s σ H x y v u Q I rx ry h
  obtain ⟨F, a, b, d, le, ia, ib, e, q⟩ := h
  unfold neD at e
  split at e
  · rename_i hs
    cases e
    exact op_neD hu pins s σ H x y v u Q I rx ry ⟨a, b, ia.dp le (noDct_shaped hs.1), ib.dp le (noDct_shaped hs.2), hs.1, hs.2, q _ F H (.refl le) (.bl _)⟩
  · cases e
end

/-! ### subscripts -/
def ixD : D → D → Option D
  | .list xs, .int i => atI xs i
  | .tuple xs, .int i => atI xs i
  | _, _ => none
theorem IsA.atI [Wd] {F : Hp} {vs : List V} {ds : List D} {i : Int} {d : D} (t : IsA F vs ds) (h : atI ds i = some d) : ∃ v, L2.atI vs i = some v ∧ Is F v d := by
  unfold L2.atI at h ⊢
  rw [t.length]
  cases hj : ixN ds.length i with
  | none => rw [hj] at h; cases h
  | some j =>
    rw [hj] at h
    exact t.get (i := j) h
section
variable [Wd] {X : Cx}
theorem o_ix : IxR X (rD ixD) := by
  intro value slice pins s σ H x y v u Q I rx ry h hs
  obtain ⟨F, a, b, d, le, ia, ib, e, q⟩ := h
  unfold ixD at e
  split at e
  · obtain ⟨p, vs, rfl, hp, z, t⟩ := ia.list le
    have e2 := ib.int
    subst e2
    obtain ⟨w, hw, iw⟩ := IsA.atI t e
    exact ix_list value slice pins s σ H _ _ v u Q I rx ry ⟨p, vs, _, w, rfl, rfl, .inl hp, hw, q w F H (.refl le) iw⟩ hs
  · obtain ⟨p, vs, rfl, hp, z, t⟩ := ia.tup le
    have e2 := ib.int
    subst e2
    obtain ⟨w, hw, iw⟩ := IsA.atI t e
    exact ix_tup value slice pins s σ H _ _ v u Q I rx ry ⟨p, vs, _, w, rfl, rfl, .inl hp, hw, q w F H (.refl le) iw⟩ hs
  · cases e
end
end DL

/-! The data layer, part 4: truth, and, or, not, displays, built-in calls, slices. -/
namespace DL
open PySem PySem.Spec PyProof.Rows L2

/-! ### truth -/
def truD : D → Option Bool
  | .none => some false
  | .bool b => some b
  | .int i => some (i != 0)
  | .str x => if x.length ≤ sizeLine then some ((x.length : Int) != 0) else none
  | .list xs => some (!xs.isEmpty)
  | .tuple xs => some (!xs.isEmpty)
  | .dict _ => none
theorem isEmpty_A [Wd] {F : Hp} : ∀ {vs : List V} {ds : List D}, IsA F vs ds → vs.isEmpty = ds.isEmpty
  | _, _, .nil => rfl
  | _, _, .cons _ _ => rfl
theorem IsH.tru [Wd] {K : PySem.W.Frag} {F H : Hp} {v : V} {d : D} {b : Bool} (le : Same F H) (h : IsH F H v d) (e : truD d = some b) : TruV K v H b := by
  cases d with
  | none => cases h.non; cases e; exact rfl
  | bool c => cases h.bl; cases e; exact rfl
  | int i => cases h.int; cases e; exact rfl
  | str x =>
    cases h.str
    have e' : (if x.length ≤ sizeLine then some ((x.length : Int) != 0) else none) = some b := e
    split at e'
    · rename_i hz; cases e'; exact ⟨hz, rfl⟩
    · cases e'
  | list xs =>
    obtain ⟨p, vs, rfl, hp, z, t⟩ := h.list le
    cases e
    exact .inl ⟨vs, .inl hp, by rw [isEmpty_A t]⟩
  | tuple xs =>
    obtain ⟨p, vs, rfl, hp, z, t⟩ := h.tup le
    cases e
    exact .inr (.inl ⟨vs, .inl hp, by rw [isEmpty_A t]⟩)
  | dict _ => cases e
def toTru (f : Rho → Res D) : Rho → Res Bool := fun ρ => (f ρ).bind fun d => .of (truD d)
def boolD : D → Option Bool
  | .bool b => some b
  | _ => none
def toB (f : Rho → Res D) : Rho → Res Bool := fun ρ => (f ρ).bind fun d => .of (boolD d)
def ofB (f : Rho → Res Bool) : Rho → Res D := fun ρ => (f ρ).map PyData.bool
def andT (f g : Rho → Res Bool) : Rho → Res Bool := fun ρ => (f ρ).bind fun b => if b = true then g ρ else .ok false
def orT (f g : Rho → Res Bool) : Rho → Res Bool := fun ρ => (f ρ).bind fun b => if b = true then .ok true else g ρ
def notT (f : Rho → Res Bool) : Rho → Res Bool := fun ρ => (f ρ).map not
section
variable [Wd] {X : Cx} {A : Amb} {W : WX} {a b c : Expr} {f g : Rho → Res D} {p q : Rho → Res Bool} {pos : Pos} {rest : List Expr}
/-- an expression as a test, by its value's truth -/
theorem t_val (h : BE X A W a f) (he : ∀ whole, isTrue a X.env whole = (do let v ← whole; standAt a.pos; holding [v] (truthy v)) := by intro _; rfl) : DT X A W a (toTru f) :=
  ptI (pt_truth h he) fun σ H Q ⟨F, ρ, S, q⟩ => ⟨F, ρ, S, by
    unfold toTru at q
    cases hf : f ρ with
    | bad => rw [hf] at q; exact q
    | ex c => rw [hf] at q; exact q
    | ok d =>
      rw [hf] at q
      simp only [Res.bind_ok] at q
      cases ht : truD d with
      | none => rw [ht] at q; exact q.elim
      | some b => rw [ht] at q; exact fun v F' H' x i => ⟨b, i.tru x.le ht, q F' H' x⟩⟩
theorem test_D {σ : L2.St} {H : Hp} {Q : Bool → Hp → Prop} (h : tT A W (toB f) σ H Q) : tTest (tD A W f) σ H Q := by
  obtain ⟨F, ρ, S, q⟩ := h
  refine ⟨F, ρ, S, ?_⟩
  unfold toB at q
  cases hf : f ρ with
  | bad => rw [hf] at q; exact q
  | ex c => rw [hf] at q; exact q
  | ok d =>
    rw [hf] at q
    simp only [Res.bind_ok] at q
    cases hb : boolD d with
    | none => rw [hb] at q; exact q.elim
    | some b =>
      rw [hb] at q
      intro v F' H' x i
      cases d with
      | bool c => cases hb; cases i; exact ⟨_, rfl, q F' H' x⟩
      | _ => cases hb
theorem tTest_mono {t t' : TE} {σ : L2.St} {H : Hp} {Q : Bool → Hp → Prop} (i : ∀ Q, t' σ H Q → t σ H Q) (h : tTest t' σ H Q) : tTest t σ H Q := i _ h
theorem t_cmp {op : CmpOp} {k : D → D → Option D} (ho : OpR X (compareOp op) (rD k)) (ha : BE X A W a f) (hb : BE X A W b g) (hm : behindInMarks op b = false) : DT X A W (.Compare a [op] [b] pos) (toB (op2 k f g)) :=
  ptI (pt_cmpR ho ha hb hm) fun σ H Q h => tTest_mono (fun Q h => op2_D h) (test_D h)
theorem t_and (ha : DT X A W a p) (hb : PW X (.BoolOp .And (b :: rest) pos) (tT A W q)) : PW X (.BoolOp .And (a :: b :: rest) pos) (tT A W (andT p q)) := pwI (pw_and ha hb) fun σ H Q ⟨F, ρ, S, h⟩ => ⟨F, ρ, S, by
  unfold andT at h
  cases hp : p ρ with
  | bad => rw [hp] at h; exact h
  | ex c => rw [hp] at h; exact h
  | ok b =>
    rw [hp] at h
    intro F' H' x
    cases b with
    | false => rw [if_neg Bool.false_ne_true]; exact h F' H' x
    | true =>
      rw [if_pos rfl]
      refine ⟨F', ρ, S.grow x, ?_⟩
      simp only [Res.bind_ok, if_true] at h
      cases hq : q ρ with
      | bad => rw [hq] at h; exact h
      | ex c => rw [hq] at h; exact h.ext x
      | ok b => rw [hq] at h; exact fun F2 H2 x2 => h F2 H2 (x.trans x2)⟩
theorem t_or (ha : DT X A W a p) (hb : PW X (.BoolOp .Or (b :: rest) pos) (tT A W q)) : PW X (.BoolOp .Or (a :: b :: rest) pos) (tT A W (orT p q)) := pwI (pw_or ha hb) fun σ H Q ⟨F, ρ, S, h⟩ => ⟨F, ρ, S, by
  unfold orT at h
  cases hp : p ρ with
  | bad => rw [hp] at h; exact h
  | ex c => rw [hp] at h; exact h
  | ok b =>
    rw [hp] at h
    intro F' H' x
    cases b with
    | true => rw [if_pos rfl]; exact h F' H' x
    | false =>
      rw [if_neg Bool.false_ne_true]
      refine ⟨F', ρ, S.grow x, ?_⟩
      simp only [Res.bind_ok, Bool.false_eq_true, if_false] at h
      cases hq : q ρ with
      | bad => rw [hq] at h; exact h
      | ex c => rw [hq] at h; exact h.ext x
      | ok b => rw [hq] at h; exact fun F2 H2 x2 => h F2 H2 (x.trans x2)⟩
theorem t_and1 (ha : DT X A W a p) : PW X (.BoolOp .And [a] pos) (tT A W p) := pw_and1 ha
theorem t_or1 (ha : DT X A W a p) : PW X (.BoolOp .Or [a] pos) (tT A W p) := pw_or1 ha
theorem t_not (ha : DT X A W a p) : DT X A W (.UnaryOp .Not a pos) (notT p) := ptI (pt_not ha) fun σ H Q ⟨F, ρ, S, h⟩ => ⟨F, ρ, S, by
  unfold notT at h
  cases hp : p ρ with
  | bad => rw [hp] at h; exact h
  | ex c => rw [hp] at h; exact h
  | ok b => rw [hp] at h; exact h⟩
/-- not e, as a value -/
theorem d_not (ha : BE X A W a f) : DE X A W (.UnaryOp .Not a pos) (ofB (notT (toTru f))) := peI (pe_notT ha) fun σ H Q ⟨F, ρ, S, h⟩ => ⟨F, ρ, S, by
  unfold ofB notT toTru at h
  cases hf : f ρ with
  | bad => rw [hf] at h; exact h
  | ex c => rw [hf] at h; exact h
  | ok d =>
    rw [hf] at h
    simp only [Res.bind_ok] at h
    cases ht : truD d with
    | none => rw [ht] at h; exact h.elim
    | some b => rw [ht] at h; exact fun v F' H' x i => ⟨b, i.tru x.le ht, h _ F' H' x (.bl _)⟩⟩
/-- a and b, a or b as values, both bools -/
def andV (f g : Rho → Res D) : Rho → Res D := fun ρ => (toB f ρ).bind fun b => if b = true then g ρ else .ok (.bool false)
def orV (f g : Rho → Res D) : Rho → Res D := fun ρ => (toB f ρ).bind fun b => if b = true then .ok (.bool true) else g ρ
theorem d_and (ha : DE X A W a f) (hb : DE X A W (.BoolOp .And (b :: rest) pos) g) : DE X A W (.BoolOp .And (a :: b :: rest) pos) (andV f g) := peI (pe_and ha hb) fun σ H Q ⟨F, ρ, S, h⟩ => ⟨F, ρ, S, by
  unfold andV toB at h
  cases hf : f ρ with
  | bad => rw [hf] at h; exact h
  | ex c => rw [hf] at h; exact h
  | ok d =>
    rw [hf] at h
    simp only [Res.bind_ok] at h
    intro v F' H' x i
    cases d with
    | bool c =>
      cases i
      refine ⟨c, rfl, ?_⟩
      cases c with
      | false => rw [if_neg Bool.false_ne_true]; exact h _ F' H' x (.bl _)
      | true =>
        rw [if_pos rfl]
        refine ⟨F', ρ, S.grow x, ?_⟩
        simp only [boolD, Res.of_some, Res.bind_ok, if_true] at h
        cases hg : g ρ with
        | bad => rw [hg] at h; exact h
        | ex c => rw [hg] at h; exact h.ext x
        | ok d => rw [hg] at h; exact fun v F2 H2 x2 i => h v F2 H2 (x.trans x2) i
    | _ => exact h.elim⟩
theorem d_or (ha : DE X A W a f) (hb : DE X A W (.BoolOp .Or (b :: rest) pos) g) : DE X A W (.BoolOp .Or (a :: b :: rest) pos) (orV f g) := peI (pe_or ha hb) fun σ H Q ⟨F, ρ, S, h⟩ => ⟨F, ρ, S, by
  unfold orV toB at h
  cases hf : f ρ with
  | bad => rw [hf] at h; exact h
  | ex c => rw [hf] at h; exact h
  | ok d =>
    rw [hf] at h
    simp only [Res.bind_ok] at h
    intro v F' H' x i
    cases d with
    | bool c =>
      cases i
      refine ⟨c, rfl, ?_⟩
      cases c with
      | true => rw [if_pos rfl]; exact h _ F' H' x (.bl _)
      | false =>
        rw [if_neg Bool.false_ne_true]
        refine ⟨F', ρ, S.grow x, ?_⟩
        simp only [boolD, Res.of_some, Res.bind_ok, Bool.false_eq_true, if_false] at h
        cases hg : g ρ with
        | bad => rw [hg] at h; exact h
        | ex c => rw [hg] at h; exact h.ext x
        | ok d => rw [hg] at h; exact fun v F2 H2 x2 i => h v F2 H2 (x.trans x2) i
    | _ => exact h.elim⟩
theorem d_one {op} (h : DE X A W a f) : DE X A W (.BoolOp op [a] pos) f := pe_one h
/-- a op b op' c -/
def chV (k k' : D → D → Option D) (f g e : Rho → Res D) : Rho → Res D := fun ρ => (f ρ).bind fun a => (g ρ).bind fun b => (Res.of ((k a b).bind boolD)).bind fun t => if t = true then (e ρ).bind fun c => .of (k' b c) else .ok (.bool false)
theorem ch_ok {k k' : D → D → Option D} {e : Rho → Res D} {σ : L2.St} {H : Hp} {Q : VK} (h : tD A W (chV k k' f g e) σ H Q) : tChain (rD k) (rD k') (tB A W f) (tB A W g) (tB A W e) σ H Q := by
  obtain ⟨F, ρ, S, h⟩ := h
  refine ⟨F, ρ, S, ?_⟩
  unfold chV at h
  cases hf : f ρ with
  | bad => rw [hf] at h; exact h
  | ex c => rw [hf] at h; exact h
  | ok da =>
    rw [hf] at h
    intro x F1 H1 x1 i1
    refine ⟨F1, ρ, S.grow x1, ?_⟩
    cases hg : g ρ with
    | bad => simp only [hg, Res.bind_ok, Res.bind_bad] at h
    | ex c => simp only [hg, Res.bind_ok, Res.bind_ex] at h; exact h.ext x1
    | ok db =>
      simp only [hg, Res.bind_ok] at h
      intro y F2 H2 x2 i2
      cases hk : k da db with
      | none => rw [hk] at h; exact h.elim
      | some t =>
        rw [hk] at h
        refine ⟨F2, da, db, t, x2.le, i1.ext x2, i2, hk, fun v F3 H3 x3 i3 => ?_⟩
        cases t with
        | bool b =>
          cases i3
          refine ⟨b, rfl, ?_⟩
          simp only [Option.bind_some, boolD, Res.of_some, Res.bind_ok] at h
          cases b with
          | false =>
            rw [if_neg Bool.false_ne_true]
            exact h _ F3 H3 ((x1.trans x2).trans x3) (.bl _)
          | true =>
            rw [if_pos rfl]
            simp only [if_true] at h
            refine ⟨F3, ρ, ((S.grow x1).grow x2).grow x3, ?_⟩
            cases he : e ρ with
            | bad => rw [he] at h; exact h
            | ex c => rw [he] at h; exact h.ext ((x1.trans x2).trans x3)
            | ok dc =>
              rw [he] at h
              intro z F4 H4 x4 i4
              simp only [Res.bind_ok] at h
              cases hk' : k' db dc with
              | none => rw [hk'] at h; exact h.elim
              | some t' =>
                rw [hk'] at h
                exact ⟨F4, db, dc, t', x4.le, (i2.ext x3).ext x4, i4, hk', fun w F5 H5 x5 i5 => h w F5 H5 ((((x1.trans x2).trans x3).trans x4).trans x5) i5⟩
        | _ => exact h.elim
theorem d_chain {op op' : CmpOp} {k k' : D → D → Option D} {e : Rho → Res D} (ho : OpR X (compareOp op) (rD k)) (ho' : OpR X (compareOp op') (rD k')) (ha : BE X A W a f) (hb : BE X A W b g) (hc : BE X A W c e)
    (hm : lastMarks [op, op'] [b, c] = false := by with_unfolding_all rfl) : DE X A W (.Compare a [op, op'] [b, c] pos) (chV k k' f g e) := peI (pe_chain ho ho' ha hb hc hm) fun σ H Q h => ch_ok h
theorem t_chain {op op' : CmpOp} {k k' : D → D → Option D} {e : Rho → Res D} (ho : OpR X (compareOp op) (rD k)) (ho' : OpR X (compareOp op') (rD k')) (ha : BE X A W a f) (hb : BE X A W b g) (hc : BE X A W c e)
    (hm : lastMarks [op, op'] [b, c] = false := by with_unfolding_all rfl) : DT X A W (.Compare a [op, op'] [b, c] pos) (toB (chV k k' f g e)) := ptI (pt_chain ho ho' ha hb hc hm) fun σ H Q h => tTest_mono (fun Q h => ch_ok h) (test_D h)
end

/-! ### arguments, displays -/
def asNil : Rho → Res (List D) := fun _ => .ok []
def asCons (f : Rho → Res D) (g : Rho → Res (List D)) : Rho → Res (List D) := fun ρ => (f ρ).bind fun d => (g ρ).map (d :: ·)
section
variable [Wd] {X : Cx} {A : Amb} {W : WX} {e : Expr} {es : List Expr} {f : Rho → Res D} {g : Rho → Res (List D)} {pos : Pos}
theorem as_nil : DAs X A W [] asNil := paI pa_nil fun σ H Q ⟨F, ρ, S, q⟩ => q [] F H (.refl S.le) .nil
theorem as_cons (h : DE X A W e f) (t : DAs X A W es g) (hs : starEach (e :: es) X.env = (false, eval e X.env) :: starEach es X.env := by rfl) : DAs X A W (e :: es) (asCons f g) := paI (pa_cons h t hs) fun σ H Q ⟨F, ρ, S, q⟩ => ⟨F, ρ, S, by
  unfold asCons at q
  cases hf : f ρ with
  | bad => rw [hf] at q; exact q
  | ex c => rw [hf] at q; exact q
  | ok d =>
    rw [hf] at q
    intro v F1 H1 x1 i1
    refine ⟨F1, ρ, S.grow x1, ?_⟩
    cases hg : g ρ with
    | bad => simp only [hg, Res.bind_ok, Res.map_bad] at q
    | ex c => simp only [hg, Res.bind_ok, Res.map_ex] at q; exact q.ext x1
    | ok ds =>
      simp only [hg, Res.bind_ok, Res.map_ok] at q
      exact fun vs F2 H2 x2 i2 => q (v :: vs) F2 H2 (x1.trans x2) (.cons (i1.mono x2.up) i2)⟩
theorem IsHA.ext {F H F' H' : Hp} (x : Ext F H F' H') : ∀ {vs : List V} {ds : List D}, IsHA F H vs ds → IsHA F' H' vs ds
  | _, _, .nil => .nil
  | _, _, .cons h t => .cons (h.ext x) (IsHA.ext x t)
theorem bs_nil : BAs X A W [] asNil := paI pa_nil fun σ H Q ⟨F, ρ, S, q⟩ => q [] F H (.refl S.le) .nil
theorem bs_cons (h : BE X A W e f) (t : BAs X A W es g) (hs : starEach (e :: es) X.env = (false, eval e X.env) :: starEach es X.env := by rfl) : BAs X A W (e :: es) (asCons f g) := paI (pa_cons h t hs) fun σ H Q ⟨F, ρ, S, q⟩ => ⟨F, ρ, S, by
  unfold asCons at q
  cases hf : f ρ with
  | bad => rw [hf] at q; exact q
  | ex c => rw [hf] at q; exact q
  | ok d =>
    rw [hf] at q
    intro v F1 H1 x1 i1
    refine ⟨F1, ρ, S.grow x1, ?_⟩
    cases hg : g ρ with
    | bad => simp only [hg, Res.bind_ok, Res.map_bad] at q
    | ex c => simp only [hg, Res.bind_ok, Res.map_ex] at q; exact q.ext x1
    | ok ds =>
      simp only [hg, Res.bind_ok, Res.map_ok] at q
      exact fun vs F2 H2 x2 i2 => q (v :: vs) F2 H2 (x1.trans x2) (.cons (i1.ext x2) i2)⟩
def small (ds : List D) : Bool := decide (ds.length ≤ 1000)
def disp (g : Rho → Res (List D)) : Rho → Res (List D) := fun ρ => (g ρ).bind fun ds => if ds.length ≤ 1000 then .ok ds else .bad
theorem line1000 {n : Nat} (h : n ≤ 1000) : n ≤ sizeLine := Nat.le_trans h (by rw [sizeLine_eq]; decide)
def dispT (g : Rho → Res (List D)) : Rho → Res D := fun ρ => (disp g ρ).map PyData.tuple
theorem d_tup {k} (h : DAs X A W es g) : DE X A W (.Tuple es k pos) (dispT g) := peI (pe_tup h) fun σ H Q ⟨F, ρ, S, q⟩ => ⟨F, ρ, S, by
  unfold dispT disp at q
  cases hg : g ρ with
  | bad => rw [hg] at q; exact q
  | ex c => rw [hg] at q; exact q
  | ok ds =>
    rw [hg] at q
    simp only [Res.bind_ok] at q
    by_cases hz : ds.length ≤ 1000
    · rw [if_pos hz] at q
      intro vs F1 H1 x1 i1
      have z : vs.length ≤ sizeLine := line1000 (by rw [i1.length]; exact hz)
      exact ⟨z, fun p hp => q _ _ _ (x1.trans (.laid x1.le hp)) (.newT x1.le hp z i1)⟩
    · rw [if_neg hz] at q; exact q.elim⟩
theorem o_lst (h : DAs X A W es g) : OE X A W (.List es pos) (disp g) := peI (pe_lst h) fun σ H Q ⟨F, ρ, S, q⟩ => ⟨F, ρ, S, by
  unfold disp at q
  cases hg : g ρ with
  | bad => rw [hg] at q; exact q
  | ex c => rw [hg] at q; exact q
  | ok ds =>
    rw [hg] at q
    simp only [Res.bind_ok] at q
    by_cases hz : ds.length ≤ 1000
    · rw [if_pos hz] at q
      intro vs F1 H1 x1 i1
      have z : vs.length ≤ sizeLine := line1000 (by rw [i1.length]; exact hz)
      exact ⟨z, fun p hp => q p vs F1 _ (x1.trans (.fresh x1.le hp)) (none_of_le x1.le hp) (Same.free x1.keep hp) upd_same z i1⟩
    · rw [if_neg hz] at q; exact q.elim⟩
end

/-! ### built-ins by name -/
def cb {α : Type} (k : List D → Option α) (g : Rho → Res (List D)) : Rho → Res α := fun ρ => (g ρ).bind fun ds => .of (k ds)
section
variable [Wd] {X : Cx} {A : Amb} {W : WX} {e : Expr} {es : List Expr} {g : Rho → Res (List D)} {x : Str} {p pos : Pos} {T id : String}
theorem cb_D {k : List D → Option D} {σ : L2.St} {H : Hp} {Q : VK} (h : tD A W (cb k g) σ H Q) : tCB (cD k) (tBs A W g) σ H Q := by
  obtain ⟨F, ρ, S, q⟩ := h
  refine ⟨F, ρ, S, ?_⟩
  unfold cb at q
  cases hg : g ρ with
  | bad => rw [hg] at q; exact q
  | ex c => rw [hg] at q; exact q
  | ok ds =>
    rw [hg] at q
    simp only [Res.bind_ok] at q
    cases hk : k ds with
    | none => rw [hk] at q; exact q.elim
    | some d => rw [hk] at q; exact fun vs F1 H1 x1 i1 => ⟨F1, ds, d, x1.le, i1, hk, fun v F2 H2 x2 i2 => q v F2 H2 (x1.trans x2) i2⟩
theorem cb_O {k : List D → Option (List D)} {σ : L2.St} {H : Hp} {Q : VK} (h : tO A W (cb k g) σ H Q) : tCB (cO k) (tBs A W g) σ H Q := by
  obtain ⟨F, ρ, S, q⟩ := h
  refine ⟨F, ρ, S, ?_⟩
  unfold cb at q
  cases hg : g ρ with
  | bad => rw [hg] at q; exact q
  | ex c => rw [hg] at q; exact q
  | ok ds =>
    rw [hg] at q
    simp only [Res.bind_ok] at q
    cases hk : k ds with
    | none => rw [hk] at q; exact q.elim
    | some d => rw [hk] at q; exact fun vs F1 H1 x1 i1 => ⟨F1, ds, d, x1.le, i1, hk, fun p vs F2 H2 x2 h1 h2 h3 h4 h5 => q p vs F2 H2 (x1.trans x2) h1 (Same.free x1.keep h2) h3 h4 h5⟩
theorem d_callB {k : List D → Option D} (hc : CallR X (.builtin id) (cD k)) (hg : Gl X x) (hm : X.mg x = none) (hv : bootBuiltins x = some (.builtin id)) (ha : BAs X A W (e :: es) g) (hn : x ≠ "__name__" := by decide) (hdb : (x == ("__debug__" : Str)) = false := by decide)
    (he : starEach (e :: es) X.env = (false, eval e X.env) :: starEach es X.env := by rfl) (hpl : (backTo pos (starEach es X.env)).any (·.1) = false := by rfl) : DE X A W (.Call (.Name x p) (e :: es) [] pos) (cb k g) :=
  peI (pe_callB hc hg hm hv ha hn hdb he hpl) fun σ H Q h => cb_D h
theorem o_callB {k : List D → Option (List D)} (hc : CallR X (.builtin id) (cO k)) (hg : Gl X x) (hm : X.mg x = none) (hv : bootBuiltins x = some (.builtin id)) (ha : BAs X A W (e :: es) g) (hn : x ≠ "__name__" := by decide) (hdb : (x == ("__debug__" : Str)) = false := by decide)
    (he : starEach (e :: es) X.env = (false, eval e X.env) :: starEach es X.env := by rfl) (hpl : (backTo pos (starEach es X.env)).any (·.1) = false := by rfl) : OE X A W (.Call (.Name x p) (e :: es) [] pos) (cb k g) :=
  peI (pe_callB hc hg hm hv ha hn hdb he hpl) fun σ H Q h => cb_O h
theorem d_callTy {k : List D → Option D} (hc : CallR X (.type T) (cD k)) (hg : Gl X x) (hm : X.mg x = none) (hv : bootBuiltins x = some (.type T)) (ha : BAs X A W (e :: es) g) (hn : x ≠ "__name__" := by decide) (hdb : (x == ("__debug__" : Str)) = false := by decide)
    (he : starEach (e :: es) X.env = (false, eval e X.env) :: starEach es X.env := by rfl) (hpl : (backTo pos (starEach es X.env)).any (·.1) = false := by rfl) : DE X A W (.Call (.Name x p) (e :: es) [] pos) (cb k g) :=
  peI (pe_callTy hc hg hm hv ha hn hdb he hpl) fun σ H Q h => cb_D h
theorem o_callTy {k : List D → Option (List D)} (hc : CallR X (.type T) (cO k)) (hg : Gl X x) (hm : X.mg x = none) (hv : bootBuiltins x = some (.type T)) (ha : BAs X A W (e :: es) g) (hn : x ≠ "__name__" := by decide) (hdb : (x == ("__debug__" : Str)) = false := by decide)
    (he : starEach (e :: es) X.env = (false, eval e X.env) :: starEach es X.env := by rfl) (hpl : (backTo pos (starEach es X.env)).any (·.1) = false := by rfl) : OE X A W (.Call (.Name x p) (e :: es) [] pos) (cb k g) :=
  peI (pe_callTy hc hg hm hv ha hn hdb he hpl) fun σ H Q h => cb_O h
theorem IsHA.one {F H : Hp} {vs : List V} {a : D} (h : IsHA F H vs [a]) : ∃ v, vs = [v] ∧ IsH F H v a := by
  cases h with | cons h t => cases t; exact ⟨_, rfl, h⟩
theorem IsHA.two {F H : Hp} {vs : List V} {a b : D} (h : IsHA F H vs [a, b]) : ∃ v w, vs = [v, w] ∧ IsH F H v a ∧ IsH F H w b := by
  cases h with | cons h t => cases t with | cons h' t => cases t; exact ⟨_, _, rfl, h, h'⟩
def lenD : List D → Option D
  | [.list xs] => some (.int xs.length)
  | [.tuple xs] => some (.int xs.length)
  | [.str x] => if x.length ≤ sizeLine then some (.int x.length) else none
  | _ => none
theorem c_len : CallR X (.builtin "len") (cD lenD) := by
  intro pins s σ H xs us Q I r h
  obtain ⟨F, as, d, le, ia, e, q⟩ := h
  unfold lenD at e
  split at e
  · cases e
    obtain ⟨v, rfl, i⟩ := ia.one
    obtain ⟨p, vs, rfl, hp, z, t⟩ := i.list le
    exact call_len_seq pins s σ H _ us Q I r ⟨p, vs, rfl, .inl (.inl hp), by rw [t.length]; exact q _ F H (.refl le) (.int _)⟩
  · cases e
    obtain ⟨v, rfl, i⟩ := ia.one
    obtain ⟨p, vs, rfl, hp, z, t⟩ := i.tup le
    exact call_len_seq pins s σ H _ us Q I r ⟨p, vs, rfl, .inr (.inl hp), by rw [t.length]; exact q _ F H (.refl le) (.int _)⟩
  · split at e
    · rename_i hz
      cases e
      obtain ⟨v, rfl, i⟩ := ia.one
      cases i.str
      exact call_len_str pins s σ H _ us Q I r ⟨_, rfl, hz, q _ F H (.refl le) (.int _)⟩
    · cases e
  · cases e
def minD : List D → Option D
  | [.int i, .int j] => some (.int (if j < i then j else i))
  | _ => none
def maxD : List D → Option D
  | [.int i, .int j] => some (.int (if j > i then j else i))
  | _ => none
theorem c_min2 (hc : X.calm = true) : CallR X (.builtin "min") (cD minD) := by
  intro pins s σ H xs us Q I r h
  obtain ⟨F, as, d, le, ia, e, q⟩ := h
  unfold minD at e
  split at e
  · cases e
    obtain ⟨v, w, rfl, i, j⟩ := ia.two
    cases i.int
    cases j.int
    exact call_min2 hc pins s σ H _ us Q I r ⟨_, _, rfl, q _ F H (.refl le) (.int _)⟩
  · cases e
theorem c_max2 (hc : X.calm = true) : CallR X (.builtin "max") (cD maxD) := by
  intro pins s σ H xs us Q I r h
  obtain ⟨F, as, d, le, ia, e, q⟩ := h
  unfold maxD at e
  split at e
  · cases e
    obtain ⟨v, w, rfl, i, j⟩ := ia.two
    cases i.int
    cases j.int
    exact call_max2 hc pins s σ H _ us Q I r ⟨_, _, rfl, q _ F H (.refl le) (.int _)⟩
  · cases e
def toListD : List D → Option (List D)
  | [.list xs] => some xs
  | [.tuple xs] => some xs
  | _ => none
theorem c_list : CallR X (.type "list") (cO toListD) := by
  intro pins s σ H xs us Q I r h
  obtain ⟨F, as, d, le, ia, e, q⟩ := h
  unfold toListD at e
  split at e
  · cases e
    obtain ⟨v, rfl, i⟩ := ia.one
    obtain ⟨p, vs, rfl, hp, z, t⟩ := i.list le
    exact call_list_of pins s σ H _ us Q I r ⟨p, vs, rfl, .inl (.inl hp), fun l hl => q l vs F _ (.fresh le hl) (none_of_le le hl) hl upd_same z t⟩
  · cases e
    obtain ⟨v, rfl, i⟩ := ia.one
    obtain ⟨p, vs, rfl, hp, z, t⟩ := i.tup le
    exact call_list_of pins s σ H _ us Q I r ⟨p, vs, rfl, .inr (.inl hp), fun l hl => q l vs F _ (.fresh le hl) (none_of_le le hl) hl upd_same z t⟩
  · cases e
def toTupD : List D → Option D
  | [.list xs] => some (.tuple xs)
  | [.tuple xs] => some (.tuple xs)
  | _ => none
theorem c_tuple : CallR X (.type "tuple") (cD toTupD) := by
  intro pins s σ H xs us Q I r h
  obtain ⟨F, as, d, le, ia, e, q⟩ := h
  unfold toTupD at e
  split at e
  · cases e
    obtain ⟨v, rfl, i⟩ := ia.one
    obtain ⟨p, vs, rfl, hp, z, t⟩ := i.list le
    exact call_tuple_of pins s σ H _ us Q I r ⟨p, vs, rfl, .inl ⟨.inl hp, fun l hl => q _ _ _ (.laid le hl) (.newT le hl z t)⟩⟩
  · cases e
    obtain ⟨v, rfl, i⟩ := ia.one
    have it := i.tupIs
    obtain ⟨p, vs, rfl, hp, z, t⟩ := i.tup le
    exact call_tuple_of pins s σ H _ us Q I r ⟨p, vs, rfl, .inr ⟨.inl hp, q _ F H (.refl le) it⟩⟩
  · cases e
end

/-! ### isinstance -/
def tyN : D → String
  | .none => "NoneType"
  | .bool _ => "bool"
  | .int _ => "int"
  | .str _ => "str"
  | .list _ => "list"
  | .tuple _ => "tuple"
  | .dict _ => "dict"
def isiD (T : String) : D → Option Bool
  | .dict _ => none
  | d => if T = "int" then some (tyN d == "int" || tyN d == "bool") else if ["bool", "str", "list", "tuple"].contains T = true then some (tyN d == T) else none
theorem kit_tab : (["NoneType", "bool", "int", "str", "list", "tuple"].all fun a => ["int", "bool", "str", "list", "tuple"].all fun T => decide (kitB a T = some (if T = "int" then a == "int" || a == "bool" else a == T))) = true := by decide +kernel
theorem kit_D {T : String} {d : D} {b : Bool} (h : isiD T d = some b) : kitB (tyN d) T = some b := by
  have hd : tyN d ∈ ["NoneType", "bool", "int", "str", "list", "tuple"] := by
    cases d <;> first | (simp [tyN]; done) | cases h
  have hh : (if T = "int" then some (tyN d == "int" || tyN d == "bool") else if ["bool", "str", "list", "tuple"].contains T = true then some (tyN d == T) else none) = some b := by
    cases d <;> first | exact h | cases h
  have hT : T ∈ ["int", "bool", "str", "list", "tuple"] ∧ (if T = "int" then tyN d == "int" || tyN d == "bool" else tyN d == T) = b := by
    by_cases e : T = "int"
    · rw [if_pos e] at hh ⊢
      exact ⟨by rw [e]; exact List.mem_cons_self, Option.some.inj hh⟩
    · rw [if_neg e] at hh ⊢
      by_cases c : ["bool", "str", "list", "tuple"].contains T = true
      · rw [if_pos c] at hh
        exact ⟨List.mem_cons_of_mem _ (List.contains_iff_mem.mp c), Option.some.inj hh⟩
      · rw [if_neg c] at hh; cases hh
  have q := List.all_eq_true.mp (List.all_eq_true.mp kit_tab _ hd) _ hT.1
  rw [of_decide_eq_true q, hT.2]
theorem IsH.ty [Wd] {K : PySem.W.Frag} {F H : Hp} {v : V} {d : D} (le : Same F H) (h : IsH F H v d) (n : ∀ kvs, d ≠ .dict kvs) : TyX K H v (.type (tyN d)) := by
  cases d with
  | none => cases h.non; exact .base .non
  | bool b => cases h.bl; exact .base (.bl b)
  | int b => cases h.int; exact .base (.int b)
  | str b => cases h.str; exact .base (.str b)
  | list xs =>
    obtain ⟨p, vs, rfl, hp, z, t⟩ := h.list le
    rcases hp with hp | ⟨o, hp⟩
    · exact .base (.lst hp)
    · exact .base (.frz hp)
  | tuple xs =>
    obtain ⟨p, vs, rfl, hp, z, t⟩ := h.tup le
    rcases hp with hp | ⟨o, hp⟩
    · exact .base (.tup hp)
    · exact .fTuple hp
  | dict kvs => exact absurd rfl (n kvs)
def isiR (T : String) (f : Rho → Res D) : Rho → Res D := fun ρ => (f ρ).bind fun d => .of ((isiD T d).map PyData.bool)
section
variable [Wd] {X : Cx} {A : Amb} {W : WX} {e c : Expr} {f : Rho → Res D} {p pos : Pos} {T : String}
theorem d_isi (hm : X.mg "isinstance" = none) (he : BE X A W e f) (hT : PE X c (tC (.ty T))) (hg : Gl X "isinstance" := by rfl)
    (hs : starEach (e :: [c]) X.env = (false, eval e X.env) :: starEach [c] X.env := by rfl) (hs2 : starEach [c] X.env = (false, eval c X.env) :: starEach [] X.env := by rfl) (hpl : (backTo pos (starEach [c] X.env)).any (·.1) = false := by rfl) :
    DE X A W (.Call (.Name "isinstance" p) [e, c] [] pos) (isiR T f) :=
  peI (pe_callB call_isi hg hm (by decide +kernel) (pa_cons he (pa_cons hT pa_nil hs2) hs) (by decide) (by decide) hs hpl) fun σ H Q ⟨F, ρ, S, q⟩ => ⟨F, ρ, S, by
    unfold isiR at q
    cases hf : f ρ with
    | bad => rw [hf] at q; exact q
    | ex c => rw [hf] at q; exact q
    | ok d =>
      rw [hf] at q
      simp only [Res.bind_ok] at q
      cases hk : isiD T d with
      | none => rw [hk] at q; exact q.elim
      | some b =>
        rw [hk] at q
        exact fun v F1 H1 x1 i1 => ⟨v, .ty T, .type (tyN d), .type T, b, rfl, .ty T, i1.ty x1.le (fun kvs z => by subst z; cases hk), kit_ty (kit_D hk), q _ F1 H1 x1 (.bl _)⟩⟩
end

/-! ### slices -/
def cutG {α : Type} (xs : List α) (lo hi : Option Int) : List α := (xs.drop (HT.sIx xs.length 0 lo)).take (HT.sIx xs.length xs.length hi - HT.sIx xs.length 0 lo)
theorem IsA.cut [Wd] {F : Hp} {vs : List V} {ds : List D} (lo hi : Option Int) (t : IsA F vs ds) : IsA F (cutV vs lo hi) (cutG ds lo hi) := by
  unfold cutV cutG
  rw [t.length]
  exact (t.drop _).take _
def cutO : D → Option Int → Option Int → Option (List D)
  | .list xs, lo, hi => some (cutG xs lo hi)
  | _, _, _ => none
def cutD : D → Option Int → Option Int → Option D
  | .list xs, lo, hi => some (.list (cutG xs lo hi))
  | .tuple xs, lo, hi => some (.tuple (cutG xs lo hi))
  | .str x, lo, hi => if x.length ≤ sizeLine then some (.str (cutS x lo hi)) else none
  | _, _, _ => none
abbrev SlK := V → Option Int → Option Int → Hp → VK → Prop
def sD [Wd] (g : D → Option Int → Option Int → Option D) : SlK := fun x lo hi H Q => ∃ F a d, Same F H ∧ IsH F H x a ∧ g a lo hi = some d ∧ ∀ v F' H', Ext F H F' H' → Is F' v d → Q v H'
def sO [Wd] (g : D → Option Int → Option Int → Option (List D)) : SlK := fun x lo hi H Q => ∃ F a ds, Same F H ∧ IsH F H x a ∧ g a lo hi = some ds ∧
  ∀ p vs F' H', Ext F H F' H' → F' p = none → H p = none → H' p = some (.lst vs) → vs.length ≤ sizeLine → IsA F' vs ds → Q (.ref p) H'
section
variable [Wd] {X : Cx}
theorem s_list : SlR X (sO cutO) := by
  intro pins s σ H x v vl vu lo hi sl Q I rx hs pl pu h
  obtain ⟨F, a, ds, le, ia, e, q⟩ := h
  unfold cutO at e
  split at e
  · cases e
    obtain ⟨p, vs, rfl, hp, z, t⟩ := ia.list le
    exact sl_list pins s σ H _ v vl vu _ _ sl Q I rx hs pl pu ⟨p, vs, rfl, .inl hp, fun l hl => q l _ F _ (.fresh le hl) (none_of_le le hl) hl upd_same (Nat.le_trans (cutV_length _ _ _) z) (t.cut _ _)⟩
  · cases e
theorem s_any : SlR X (sD cutD) := by
  intro pins s σ H x v vl vu lo hi sl Q I rx hs pl pu h
  obtain ⟨F, a, d, le, ia, e, q⟩ := h
  cases a with
  | list xs =>
    cases e
    exact s_list pins s σ H _ v vl vu _ _ sl Q I rx hs pl pu ⟨F, _, _, le, ia, rfl, fun p vs F' H' x hf hn hp z t => frozen q x hf hn hp z t⟩
  | tuple xs =>
    cases e
    have it := ia.tupIs
    obtain ⟨p, vs, rfl, hp, z, t⟩ := ia.tup le
    refine sl_tupA pins s σ H _ v vl vu _ _ sl Q I rx hs pl pu ⟨p, vs, rfl, .inl hp, fun hw => ?_, fun _ l hl => q _ _ _ (.laid le hl) (.newT le hl (Nat.le_trans (cutV_length _ _ _) z) (t.cut _ _))⟩
    have e1 : cutG xs lo hi = xs := by
      unfold cutG
      rw [← t.length, hw.1, hw.2, List.drop_zero, t.length, Nat.sub_zero, List.take_length]
    rw [e1] at q
    exact q _ F H (.refl le) it
  | str y =>
    have e' : (if y.length ≤ sizeLine then some (PyData.str (cutS y lo hi)) else none) = some d := e
    split at e'
    · rename_i hz
      cases e'
      cases ia.str
      exact sl_str pins s σ H _ v vl vu _ _ sl Q I rx hs pl pu ⟨_, rfl, hz, q _ F H (.refl le) (.str _)⟩
    · cases e'
  | _ => cases e
end
def intOf : D → Option Int
  | .int i => some i
  | _ => none
def ptN : Rho → Res (Option Int) := fun _ => .ok none
def ptS (f : Rho → Res D) : Rho → Res (Option Int) := fun ρ => (f ρ).bind fun d => (Res.of (intOf d)).map some
def sl3 {α : Type} (g : D → Option Int → Option Int → Option α) (f : Rho → Res D) (lo hi : Rho → Res (Option Int)) : Rho → Res α := fun ρ => (f ρ).bind fun a => (lo ρ).bind fun l => (hi ρ).bind fun u => .of (g a l u)
/-- a part's reading -/
def tPt [Wd] (A : Amb) (W : WX) (f : Rho → Res (Option Int)) : TO := fun σ H Q => ∃ F ρ, Sim A F H σ ρ ∧ match f ρ with
  | .ok o => ∀ F' H', Ext F H F' H' → Q o H'
  | .ex c => Pex A W F H σ c
  | .bad => False
section
variable [Wd] {X : Cx} {A : Amb} {W : WX} {e : Expr} {f : Rho → Res D} {lo hi : Option Expr} {l u : Rho → Res (Option Int)} {p2 pos : Pos}
theorem poI {o : Option Expr} {t t' : TO} (h : PO X o t) (i : ∀ σ H Q, t' σ H Q → t σ H Q) : PO X o t' := ⟨fun pins s σ H Q I q => h.run pins s σ H Q I (i _ _ _ q)⟩
theorem p_none : PO X none (tPt A W ptN) := poI po_none fun σ H Q ⟨F, ρ, S, q⟩ => q F H (.refl S.le)
theorem p_some (h : BE X A W e f) : PO X (some e) (tPt A W (ptS f)) := poI (po_some h) fun σ H Q ⟨F, ρ, S, q⟩ => ⟨F, ρ, S, by
  unfold ptS at q
  cases hf : f ρ with
  | bad => rw [hf] at q; exact q
  | ex c => rw [hf] at q; exact q
  | ok d =>
    rw [hf] at q
    intro v F1 H1 x1 i1
    cases d with
    | int i => cases i1.int; exact ⟨i, rfl, q F1 H1 x1⟩
    | _ => exact q.elim⟩
theorem sl_run {r : SlK} {α : Type} {g : D → Option Int → Option Int → Option α} {σ : L2.St} {H : Hp} {Q : VK} {F : Hp} {ρ : Rho} (S : Sim A F H σ ρ)
    (q : match sl3 g f l u ρ with
      | .ok d => ∀ x F' H' a o o', Ext F H F' H' → IsH F' H' x a → g a o o' = some d → r x o o' H' Q
      | .ex c => Pex A W F H σ c
      | .bad => False) : tSl r (tB A W f) (tPt A W l) (tPt A W u) σ H Q := by
  unfold sl3 at q
  refine ⟨F, ρ, S, ?_⟩
  cases hf : f ρ with
  | bad => rw [hf] at q; exact q
  | ex c => rw [hf] at q; exact q
  | ok da =>
    rw [hf] at q
    intro x F1 H1 x1 i1
    refine ⟨F1, ρ, S.grow x1, ?_⟩
    simp only [Res.bind_ok] at q
    cases hl : l ρ with
    | bad => rw [hl] at q; exact q
    | ex c => rw [hl] at q; exact q.ext x1
    | ok o =>
      rw [hl] at q
      intro F2 H2 x2
      refine ⟨F2, ρ, (S.grow x1).grow x2, ?_⟩
      simp only [Res.bind_ok] at q
      cases hu : u ρ with
      | bad => rw [hu] at q; exact q
      | ex c => rw [hu] at q; exact q.ext (x1.trans x2)
      | ok o' =>
        rw [hu] at q
        intro F3 H3 x3
        simp only [Res.bind_ok] at q
        cases hg : g da o o' with
        | none => rw [hg] at q; exact q.elim
        | some d => rw [hg] at q; exact q x F3 H3 da o o' ((x1.trans x2).trans x3) ((i1.ext x2).ext x3) hg
theorem d_slice {g : D → Option Int → Option Int → Option D} (hr : SlR X (sD g)) (he : BE X A W e f) (hl : PO X lo (tPt A W l)) (hu : PO X hi (tPt A W u)) : DE X A W (.Subscript e (.Slice lo hi none p2) pos) (sl3 g f l u) :=
  peI (pe_slice hr he hl hu) fun σ H Q ⟨F, ρ, S, q⟩ => sl_run (g := g) S (by
    cases ho : sl3 g f l u ρ with
    | bad => rw [ho] at q; exact q
    | ex c => rw [ho] at q; exact q
    | ok d => rw [ho] at q; exact fun x F' H' a o o' x1 i1 hg => ⟨F', a, d, x1.le, i1, hg, fun v F2 H2 x2 i => q v F2 H2 (x1.trans x2) i⟩)
theorem o_slice {g : D → Option Int → Option Int → Option (List D)} (hr : SlR X (sO g)) (he : BE X A W e f) (hl : PO X lo (tPt A W l)) (hu : PO X hi (tPt A W u)) : OE X A W (.Subscript e (.Slice lo hi none p2) pos) (sl3 g f l u) :=
  peI (pe_slice hr he hl hu) fun σ H Q ⟨F, ρ, S, q⟩ => sl_run (g := g) S (by
    cases ho : sl3 g f l u ρ with
    | bad => rw [ho] at q; exact q
    | ex c => rw [ho] at q; exact q
    | ok d => rw [ho] at q; exact fun x F' H' a o o' x1 i1 hg => ⟨F', a, d, x1.le, i1, hg, fun p vs F2 H2 x2 h1 h2 h3 h4 h5 => q p vs F2 H2 (x1.trans x2) h1 (Same.free x1.keep h2) h3 h4 h5⟩)
end
end DL

/-! The data layer, part 5: what is walked; targets; comprehensions. -/
namespace DL
open PySem PySem.Spec PyProof.Rows L2

/-! ### what a walk yields -/
/-- the iterator J yields xs, as long as F1 stands frozen and H1 stands -/
def ItH [Wd] (J : It) (F1 H1 : Hp) (xs : List D) : Prop := ∀ (i : Nat) (F H : Hp), Same F1 F → Same F H → Same H1 H →
  (∀ x, xs[i]? = some x → J.go i H ∧ ∀ v H', J.yld i H v H' → ∃ F', Ext F H F' H' ∧ Is F' v x) ∧ (xs.length ≤ i → J.stop i H)
/-- .. as long as F1 stands frozen -/
def ItF [Wd] (J : It) (F1 : Hp) (xs : List D) : Prop := ∀ (i : Nat) (F H : Hp), Same F1 F → Same F H →
  (∀ x, xs[i]? = some x → J.go i H ∧ ∀ v H', J.yld i H v H' → ∃ F', Ext F H F' H' ∧ Is F' v x) ∧ (xs.length ≤ i → J.stop i H)
theorem ItF.h [Wd] {J : It} {F1 H1 : Hp} {xs : List D} (h : ItF J F1 xs) : ItH J F1 H1 xs := fun i F H a b _ => h i F H a b
def tIH [Wd] (A : Amb) (W : WX) (f : Rho → Res (List D)) : TI := fun σ H R => ∃ F ρ, Sim A F H σ ρ ∧ match f ρ with
  | .ok xs => ∀ J F' H', Ext F H F' H' → ItH J F' H' xs → xs.length ≤ sizeLine → R J H'
  | .ex c => Pex A W F H σ c
  | .bad => False
def tIF [Wd] (A : Amb) (W : WX) (f : Rho → Res (List D)) : TI := fun σ H R => ∃ F ρ, Sim A F H σ ρ ∧ match f ρ with
  | .ok xs => ∀ J F' H', Ext F H F' H' → ItF J F' xs → xs.length ≤ sizeLine → R J H'
  | .ex c => Pex A W F H σ c
  | .bad => False
theorem piI [Wd] {X : Cx} {tg e : Expr} {t t' : TI} (h : PI X tg e t) (i : ∀ σ H Q, t' σ H Q → t σ H Q) : PI X tg e t' := ⟨fun pins s σ H Q I q => h.run pins s σ H Q I (i _ _ _ q)⟩
abbrev IH [Wd] (X : Cx) (A : Amb) (W : WX) (tg e : Expr) (f : Rho → Res (List D)) : Prop := PI X tg e (tIH A W f)
abbrev IF [Wd] (X : Cx) (A : Amb) (W : WX) (tg e : Expr) (f : Rho → Res (List D)) : Prop := PI X tg e (tIF A W f)
theorem ih_f [Wd] {X : Cx} {A : Amb} {W : WX} {tg e : Expr} {f : Rho → Res (List D)} (h : IF X A W tg e f) : IH X A W tg e f := piI h fun σ H R ⟨F, ρ, S, q⟩ => ⟨F, ρ, S, by
  cases hf : f ρ with
  | bad => rw [hf] at q; exact q
  | ex c => rw [hf] at q; exact q
  | ok xs => rw [hf] at q; exact fun J F' H' x i z => q J F' H' x i.h z⟩

def seqOf : D → Option (List D)
  | .list xs => some xs
  | .tuple xs => some xs
  | _ => none
def toSeq (f : Rho → Res D) : Rho → Res (List D) := fun ρ => (f ρ).bind fun d => .of (seqOf d)
/-- a list or a tuple, as it comes -/
def iSeq (tl : TE) : TI := fun σ H R => tl σ H fun x H1 => ∃ a, x = .ref a ∧ ∃ xs, (Rd H1 a (.lst xs) ∧ ∀ K, R (Itl K a) H1) ∨ (Rd H1 a (.tup xs) ∧ ∀ K, R (Itt K a) H1)
section
variable [Wd] {X : Cx} {A : Amb} {W : WX} {tg e : Expr} {f : Rho → Res D}
theorem pi_seq {tl : TE} (hl : PE X e tl) : PI X tg e (iSeq tl) := by
  refine ⟨fun pins s σ H R I h => ?_⟩
  refine thn (hl.run pins s σ H _ I h) fun v s1 ⟨x, H1, I1, r1, q1⟩ => ?_
  obtain ⟨a, ex, xs, hq⟩ := q1
  subst ex
  cases r1
  rcases hq with ⟨hq, q⟩ | ⟨hq, q⟩
  · obtain ⟨its, rv, p, hz⟩ := I1.list (.inl hq)
    refine wpAny_pyIter_list p.isList ?_
    refine ⟨s1.heap.objs.size, [s1.heap.objs.size], _, _, H1, rfl, I1.kept (t' := s1.toks) fun b o e => Heap.get?_push_of_some _ e, turn_list a _, ⟨_, Heap.get?_push_size _ rfl, rfl, rfl⟩, fun b hb => ?_, q _⟩
    have e : b = s1.heap.objs.size := by simpa using hb
    subst e
    exact I1.fpOk (Nat.le_refl _) (I1.hok.fresh (Nat.le_refl _))
  · obtain ⟨its, rv, p, hz⟩ := I1.tuple (.inl hq)
    refine wpAny_pyIter_tuple (show s1.heap.IsTuple a its.toArray from p) ?_
    refine ⟨s1.heap.objs.size, [s1.heap.objs.size], _, _, H1, rfl, I1.kept (t' := s1.toks) fun b o e => Heap.get?_push_of_some _ e, turn_tuple a _, ⟨_, Heap.get?_push_size _ rfl, rfl, rfl⟩, fun b hb => ?_, q _⟩
    have e : b = s1.heap.objs.size := by simpa using hb
    subst e
    exact I1.fpOk (Nat.le_refl _) (I1.hok.fresh (Nat.le_refl _))
theorem itl_H {K : PySem.W.Frag} {F H : Hp} {a : Addr} {vs : List V} {xs : List D} (h : Rd H a (.lst vs)) (t : IsA F vs xs) : ItH (Itl K a) F H xs := fun i F' H' hF hl hH => by
  have hs : SqL K H' a vs := .inl (Rd.mono hH h)
  refine ⟨fun x hx => ?_, fun hi => ⟨vs, hs, by rw [t.length]; exact hi⟩⟩
  obtain ⟨v, hv, iv⟩ := t.get hx
  refine ⟨⟨vs, v, hs, hv⟩, fun v' H2 y => ?_⟩
  obtain ⟨rfl, y⟩ := y
  have e := (y vs hs).symm.trans hv
  cases e
  exact ⟨F', .refl hl, iv.mono hF⟩
theorem itt_H {K : PySem.W.Frag} {F H : Hp} {a : Addr} {vs : List V} {xs : List D} (h : Rd H a (.tup vs)) (t : IsA F vs xs) : ItH (Itt K a) F H xs := fun i F' H' hF hl hH => by
  have hs : SqT K H' a vs := .inl (Rd.mono hH h)
  refine ⟨fun x hx => ?_, fun hi => ⟨vs, hs, by rw [t.length]; exact hi⟩⟩
  obtain ⟨v, hv, iv⟩ := t.get hx
  refine ⟨⟨vs, v, hs, hv⟩, fun v' H2 y => ?_⟩
  obtain ⟨rfl, y⟩ := y
  have e := (y vs hs).symm.trans hv
  cases e
  exact ⟨F', .refl hl, iv.mono hF⟩
theorem ItF.of {J : It} {F : Hp} {xs : List D} (h : ItH J F F xs) : ItF J F xs := fun i F' H' hF hl => h i F' H' hF hl (hF.trans hl)
/-- over a list (one's own too) or a tuple, for a comprehension -/
theorem i_seq (h : BE X A W e f) : IH X A W tg e (toSeq f) := piI (pi_seq h) fun σ H R ⟨F, ρ, S, q⟩ => ⟨F, ρ, S, by
  unfold toSeq at q
  cases hf : f ρ with
  | bad => rw [hf] at q; exact q
  | ex c => rw [hf] at q; exact q
  | ok d =>
    rw [hf] at q
    simp only [Res.bind_ok] at q
    intro v F1 H1 x1 i1
    cases d with
    | list xs =>
      obtain ⟨p, vs, rfl, hp, z, t⟩ := i1.list x1.le
      exact ⟨p, rfl, vs, .inl ⟨hp, fun K => q (Itl K p) F1 H1 x1 (itl_H hp t) (by rw [← t.length]; exact z)⟩⟩
    | tuple xs =>
      obtain ⟨p, vs, rfl, hp, z, t⟩ := i1.tup x1.le
      exact ⟨p, rfl, vs, .inr ⟨hp, fun K => q (Itt K p) F1 H1 x1 (itt_H hp t) (by rw [← t.length]; exact z)⟩⟩
    | _ => exact q.elim⟩
/-- .. that is frozen, for a for -/
theorem i_seqF (h : DE X A W e f) : IF X A W tg e (toSeq f) := piI (pi_seq h) fun σ H R ⟨F, ρ, S, q⟩ => ⟨F, ρ, S, by
  unfold toSeq at q
  cases hf : f ρ with
  | bad => rw [hf] at q; exact q
  | ex c => rw [hf] at q; exact q
  | ok d =>
    rw [hf] at q
    simp only [Res.bind_ok] at q
    intro v F1 H1 x1 i1
    cases d with
    | list xs =>
      cases i1 with
      | lst hp z t => exact ⟨_, rfl, _, .inl ⟨Rd.mono x1.le hp, fun K => q (Itl K _) F1 H1 x1 (.of (itl_H hp t)) (by rw [← t.length]; exact z)⟩⟩
    | tuple xs =>
      cases i1 with
      | tup hp z t => exact ⟨_, rfl, _, .inr ⟨Rd.mono x1.le hp, fun K => q (Itt K _) F1 H1 x1 (.of (itt_H hp t)) (by rw [← t.length]; exact z)⟩⟩
    | _ => exact q.elim⟩
end

/-! ### ranges -/
def upTo (lo : Int) (n : Nat) : List D := (List.range n).map fun k => .int (lo + (k : Nat))
def smallR (i : Int) : Bool := Nat.ble i.natAbs 1000000
def rng1 : List D → Option (List D)
  | [.int j] => if smallR j = true then some (upTo 0 j.toNat) else none
  | _ => none
def rng2 : List D → Option (List D)
  | [.int i, .int j] => if (smallR i && smallR j) = true then some (upTo i (j - i).toNat) else none
  | _ => none
theorem smallR_ok {i : Int} (h : smallR i = true) : -1000000 ≤ i ∧ i ≤ 1000000 := by
  unfold smallR at h
  rw [Nat.ble_eq] at h
  omega
theorem smallR_of {i : Int} (h1 : -1000000 ≤ i) (h2 : i ≤ 1000000) : smallR i = true := by
  unfold smallR
  rw [Nat.ble_eq]
  omega
theorem smallI_of {i : Int} (h1 : -1000000 ≤ i) (h2 : i ≤ 1000000) : smallI i = true := by
  unfold smallI
  rw [Nat.blt_eq]
  omega
theorem itr_F [Wd] {lo : Int} {n : Nat} {F : Hp} : ItF (Itr lo n) F (upTo lo n) := fun i F' H' hF hl => by
  refine ⟨fun x hx => ?_, fun hi => ?_⟩
  · unfold upTo at hx
    rw [List.getElem?_map] at hx
    obtain ⟨k, hk, e⟩ := Option.map_eq_some_iff.mp hx
    obtain ⟨h1, h2⟩ := List.getElem?_eq_some_iff.mp hk
    rw [List.getElem_range] at h2
    subst h2
    rw [List.length_range] at h1
    refine ⟨h1, fun v H2 y => ?_⟩
    obtain ⟨rfl, rfl⟩ := y
    subst e
    exact ⟨F', .refl hl, .int _⟩
  · unfold upTo at hi
    rw [List.length_map, List.length_range] at hi
    exact hi
theorem upTo_len (lo : Int) (n : Nat) : (upTo lo n).length = n := by unfold upTo; rw [List.length_map, List.length_range]
section
variable [Wd] {X : Cx} {A : Amb} {W : WX} {tg e e2 : Expr} {g : Rho → Res (List D)} {p pos : Pos}
theorem i_rng1 (hm : X.mg "range" = none) (ha : BAs X A W [e] g) (hg : Gl X "range" := by rfl) (hs : starEach [e] X.env = [(false, eval e X.env)] := by rfl) : IF X A W tg (.Call (.Name "range" p) [e] [] pos) (cb rng1 g) :=
  piI (pi_range1 hg hm ha hs) fun σ H R ⟨F, ρ, S, q⟩ => ⟨F, ρ, S, by
    unfold cb at q
    cases hf : g ρ with
    | bad => rw [hf] at q; exact q
    | ex c => rw [hf] at q; exact q
    | ok ds =>
      rw [hf] at q
      simp only [Res.bind_ok] at q
      intro vs F1 H1 x1 i1
      cases hk : rng1 ds with
      | none => rw [hk] at q; exact q.elim
      | some xs =>
        rw [hk] at q
        unfold rng1 at hk
        split at hk
        · rename_i j
          split at hk
          · rename_i hj
            cases hk
            have := smallR_ok hj
            obtain ⟨v, rfl, i⟩ := i1.one
            cases i.int
            refine ⟨j, rfl, by omega, by omega, q _ F1 H1 x1 itr_F (by rw [upTo_len, sizeLine_eq]; omega)⟩
          · cases hk
        · cases hk⟩
theorem i_rng2 (hm : X.mg "range" = none) (ha : BAs X A W [e, e2] g) (hg : Gl X "range" := by rfl) (hs : starEach [e, e2] X.env = [(false, eval e X.env), (false, eval e2 X.env)] := by rfl) (hs2 : starEach [e2] X.env = [(false, eval e2 X.env)] := by rfl) :
    IF X A W tg (.Call (.Name "range" p) [e, e2] [] pos) (cb rng2 g) :=
  piI (pi_range2 hg hm ha hs hs2) fun σ H R ⟨F, ρ, S, q⟩ => ⟨F, ρ, S, by
    unfold cb at q
    cases hf : g ρ with
    | bad => rw [hf] at q; exact q
    | ex c => rw [hf] at q; exact q
    | ok ds =>
      rw [hf] at q
      simp only [Res.bind_ok] at q
      intro vs F1 H1 x1 i1
      cases hk : rng2 ds with
      | none => rw [hk] at q; exact q.elim
      | some xs =>
        rw [hk] at q
        unfold rng2 at hk
        split at hk
        · rename_i i j
          split at hk
          · rename_i hj
            cases hk
            rw [Bool.and_eq_true] at hj
            have h1 := smallR_ok hj.1
            have h2 := smallR_ok hj.2
            obtain ⟨v, w, rfl, i1, i2⟩ := i1.two
            cases i1.int
            cases i2.int
            exact ⟨i, j, rfl, ⟨by omega, by omega, by omega, by omega⟩, q _ F1 H1 x1 itr_F (by rw [upTo_len, sizeLine_eq]; omega)⟩
          · cases hk
        · cases hk⟩
end

/-! ### targets -/
/-- a target: the slots it writes, what the bindings become -/
structure Tg where
  at_ : List Nat
  run : D → Rho → Res Rho
/-- the target's reading by data: only the slots t.at_ are written -/
def TgSim [Wd] (t : Tg) (g : TG) : Prop := ∀ (A : Amb) (F H : Hp) (σ : L2.St) (ρ ρ' : Rho) (v : V) (d : D) (Q : L2.St → Hp → Prop), Sim A F H σ ρ → Is F v d → t.run d ρ = .ok ρ' →
    (∀ σ', Sim A F H σ' ρ' → σ'.length = σ.length → (∀ i, i ∉ t.at_ → σ'[i]? = σ[i]?) → Q σ' H) → g v σ H Q
def tgName (i : Nat) : Tg := ⟨[i], fun d ρ => .ok (ρ.set i (some (.d d)))⟩
def tgPair (i j : Nat) : Tg := ⟨[i, j], fun d ρ => match d with
  | .tuple [x, y] => .ok ((ρ.set i (some (.d x))).set j (some (.d y)))
  | _ => .bad⟩
theorem tgs_name [Wd] {i : Nat} : TgSim (tgName i) (gName i) := fun A F H σ ρ ρ' v d Q S i1 e q => by
  cases e
  exact q _ (S.setD i1) (by simp) fun j hj => List.getElem?_set_ne (fun z => hj (by simp [tgName, z]))
theorem tgs_pair [Wd] {K : PySem.W.Frag} {i j : Nat} : TgSim (tgPair i j) (gTup K 2 (gCons (gName i) (gCons (gName j) gNil))) := fun A F H σ ρ ρ' v d Q S i1 e q => by
  unfold tgPair at e
  simp only at e
  split at e
  · cases e
    cases i1 with
    | tup h z t =>
      cases t with
      | cons h1 t =>
        cases t with
        | cons h2 t =>
          cases t
          refine ⟨_, _, rfl, .inl (Rd.mono S.le h), rfl, _, _, rfl, _, _, rfl, rfl, ?_⟩
          refine q _ ((S.setD h1).setD h2) (by simp) fun k hk => ?_
          rw [List.getElem?_set_ne (fun z => hk (by simp [tgPair, z])), List.getElem?_set_ne (fun z => hk (by simp [tgPair, z]))]
  · cases e

/-! ### comprehensions -/
def wipeR (ρ : Rho) : List Nat → Rho
  | [] => ρ
  | v :: vs => (wipeR ρ vs).set v none
theorem Sim.wipe [Wd] {A : Amb} {F H : Hp} {σ : L2.St} {ρ : Rho} (S : Sim A F H σ ρ) : ∀ vs : List Nat, Sim A F H (wipe σ vs) (wipeR ρ vs)
  | [] => S
  | v :: vs => (Sim.wipe S vs).drop v none
theorem wipe_in {σ : L2.St} {i : Nat} (hi : i < σ.length) : ∀ {vs : List Nat}, i ∈ vs → (wipe σ vs)[i]? = some none
  | [], h => by cases h
  | v :: vs, h => by
    unfold wipe
    by_cases e : v = i
    · subst e
      rw [List.getElem?_set_self (by rw [wipe_length]; exact hi)]
    · rw [List.getElem?_set_ne e]
      rcases List.mem_cons.mp h with z | z
      · exact absurd z.symm e
      · exact wipe_in hi z
theorem wipe_eq {σ σ2 : L2.St} {vs : List Nat} (hl : σ2.length = (wipe σ vs).length) (h : ∀ i, i ∉ vs → σ2[i]? = (wipe σ vs)[i]?) : wipe σ2 vs = wipe σ vs := by
  apply List.ext_getElem?
  intro i
  by_cases hi : i ∈ vs
  · by_cases hs : i < σ.length
    · rw [wipe_in hs hi, wipe_in (by rw [hl, wipe_length]; exact hs) hi]
    · rw [List.getElem?_eq_none (by rw [wipe_length, hl, wipe_length]; omega), List.getElem?_eq_none (by rw [wipe_length]; omega)]
  · rw [wipe_out hi, h i hi]
def Res.noex {α : Type} : Res α → Res α
  | .ok a => .ok a
  | _ => .bad
@[simp] theorem Res.noex_ok {α : Type} (a : α) : (Res.ok a).noex = .ok a := rfl
def lcL (t : Tg) (c : Rho → Res Bool) (e : Rho → Res D) (ρ : Rho) : List D → Res (List D)
  | [] => .ok []
  | x :: xs => (t.run x ρ).noex.bind fun ρ1 => (c ρ1).noex.bind fun b => if b = true then (e ρ1).noex.bind fun y => (lcL t c e ρ xs).map (y :: ·) else lcL t c e ρ xs
def lc (fi : Rho → Res (List D)) (t : Tg) (c : Rho → Res Bool) (e : Rho → Res D) (vs : List Nat) : Rho → Res (List D) := fun ρ => (fi ρ).bind fun xs => (lcL t c e (wipeR ρ vs) xs).noex
abbrev W0 : WX := fun _ _ _ _ => False
theorem noex_ok {α : Type} {r : Res α} {β : Type} {f : α → Res β} {b : β} (h : r.noex.bind f = .ok b) : ∃ a, r = .ok a ∧ f a = .ok b := by
  cases r with
  | ok a => exact ⟨a, rfl, h⟩
  | ex c => cases h
  | bad => cases h
theorem map_ok {α β : Type} {r : Res α} {f : α → β} {b : β} (h : r.map f = .ok b) : ∃ a, r = .ok a ∧ f a = b := by
  cases r with
  | ok a => cases h; exact ⟨a, rfl, rfl⟩
  | ex c => cases h
  | bad => cases h
section
variable [Wd] {X : Cx} {A : Amb} {W : WX}
abbrev DTs (X : Cx) (A : Amb) (W : WX) (ifs : List Expr) (f : Rho → Res Bool) : Prop := PTs X ifs (tT A W f)
def yes : Rho → Res Bool := fun _ => .ok true
theorem ts_nil : DTs X A W [] yes := ⟨fun pins s σ H Q I ⟨F, ρ, S, q⟩ => pts_nil.run pins s σ H Q I (q F H (.refl S.le))⟩
theorem ts_one {c : Expr} {f : Rho → Res Bool} (h : DT X A W c f) : DTs X A W [c] f := pts_one h
theorem lc_ok {fi : Rho → Res (List D)} {t : Tg} {g : TG} {c : Rho → Res Bool} {e : Rho → Res D} {vs : List Nat} (hs : TgSim t g) (hv : ∀ i ∈ t.at_, i ∈ vs) {σ : L2.St} {H : Hp} {Q : VK} (h : tO A W (lc fi t c e vs) σ H Q) :
    tLc (tIH A W fi) g (tT A W0 c) (tD A W0 e) vs σ H Q := by
  obtain ⟨F, ρ, S, q⟩ := h
  refine ⟨F, ρ, S, ?_⟩
  unfold lc at q
  cases hf : fi ρ with
  | bad => rw [hf] at q; exact q
  | ex c => rw [hf] at q; exact q
  | ok xs =>
    rw [hf] at q
    simp only [Res.bind_ok] at q
    intro J F1 H1 x1 J1 hz D hD
    cases hl : lcL t c e (wipeR ρ vs) xs with
    | bad => rw [hl] at q; exact q.elim
    | ex c' => rw [hl] at q; exact q.elim
    | ok ds =>
      rw [hl] at q
      refine ⟨fun i m H => ∃ F' acc done rest, m = xs.length - i ∧ i ≤ xs.length ∧ Ext F1 H1 F' H ∧ F' D = none ∧ H D = some (.lst acc) ∧ acc.length ≤ i ∧ IsA F' acc done ∧ lcL t c e (wipeR ρ vs) (xs.drop i) = .ok rest ∧ done ++ rest = ds,
        ⟨xs.length, F1, [], [], ds, by simp, Nat.zero_le _, .fresh x1.le hD, none_of_le x1.le hD, upd_same, Nat.le_refl _, .nil, by simpa using hl, rfl⟩, ?_⟩
      rintro i m H2 ⟨F2, acc, done, rest, rfl, hi, x2, fD, hA, ha, iA, hr, hd⟩
      obtain ⟨go, stop⟩ := J1 i F2 H2 x2.up x2.le x2.keep
      by_cases hlt : i < xs.length
      · obtain ⟨g1, g2⟩ := go xs[i] (List.getElem?_eq_getElem hlt)
        rw [List.drop_eq_getElem_cons hlt] at hr
        unfold lcL at hr
        obtain ⟨ρ1, hρ, hr⟩ := noex_ok hr
        obtain ⟨b, hb, hr⟩ := noex_ok hr
        refine .inr ⟨g1, fun H => ∃ F' acc done rest, Ext F1 H1 F' H ∧ F' D = none ∧ H D = some (.lst acc) ∧ acc.length ≤ i + 1 ∧ IsA F' acc done ∧ lcL t c e (wipeR ρ vs) (xs.drop (i + 1)) = .ok rest ∧ done ++ rest = ds,
          fun H' ⟨F', acc, done, rest, a1, a2, a3, a4, a5, a6, a7⟩ => ⟨xs.length - (i + 1), by omega, F', acc, done, rest, rfl, hlt, a1, a2, a3, a4, a5, a6, a7⟩, fun v H3 hy => ?_⟩
        obtain ⟨F3, x3, i3⟩ := g2 v H3 hy
        have S3 : Sim A F3 H3 (wipe σ vs) (wipeR ρ vs) := (((S.grow x1).wipe vs).grow (x2.trans x3))
        refine hs A F3 H3 _ _ ρ1 v _ _ S3 i3 hρ fun σ2 S4 hl2 ho => ⟨wipe_eq hl2 fun j hj => ho j fun z => hj (hv j z), F3, ρ1, S4, ?_⟩
        rw [hb]
        intro F4 H4 x4
        cases b with
        | false =>
          rw [if_neg Bool.false_ne_true] at hr ⊢
          exact ⟨F4, acc, done, rest, x2.trans (x3.trans x4), (x3.trans x4).new _ _ fD hA, (x3.trans x4).keep _ _ hA, by omega, iA.mono (x3.trans x4).up, hr, hd⟩
        | true =>
          rw [if_pos rfl] at hr ⊢
          obtain ⟨y, hy, hr⟩ := noex_ok hr
          obtain ⟨rest', hr', hrr⟩ := map_ok hr
          refine ⟨F4, ρ1, S4.grow x4, ?_⟩
          rw [hy]
          intro w F5 H5 x5 i5
          have x6 := x3.trans (x4.trans x5)
          have hA5 := x6.keep _ _ hA
          have fD5 := x6.new _ _ fD hA
          refine ⟨acc, hA5, by omega, F5, acc ++ [w], done ++ [y], rest', ?_, fD5, upd_same, by rw [List.length_append]; simp; omega, (iA.mono x6.up).append (.cons i5 .nil), hr', ?_⟩
          · have x7 := x2.trans x6
            refine ⟨x7.up, fun b o eb => ?_, fun b o eb => ?_, x7.new⟩
            · rw [upd_ne (ne_of_none eb hD)]; exact x7.keep _ _ eb
            · rw [upd_ne (ne_of_none eb fD5)]; exact x7.le _ _ eb
          · rw [← hd, ← hrr]; simp
      · have ei : i = xs.length := by omega
        subst ei
        refine .inl ⟨stop (Nat.le_refl _), ?_⟩
        rw [List.drop_length] at hr
        cases hr
        rw [List.append_nil] at hd
        subst hd
        exact q D acc F2 H2 (x1.trans x2) fD (Same.free x1.keep hD) hA (by omega) iA
theorem o_lc {elt tg iter : Expr} {ifs : List Expr} {scope : Scope} {own : List (Str × Nat)} {pos : Pos} {fi : Rho → Res (List D)} {t : Tg} {g : TG} {c : Rho → Res Bool} {e : Rho → Res D} (hc : X.calm = true) (hN : X.N.Nodup) (hi : IH X A W tg iter fi) (ok : BlkOk X.N X.env.scope scope own)
    (hg : ∀ (s : Shared) (H : Hp) (C : Addr) (cl : List (Str × Addr)) (fp : List Addr), PG (X.blk s H scope (compEnvC scope cl C X.env) fp) tg g) (hs : TgSim t g)
    (ht : ∀ (s : Shared) (H : Hp) (C : Addr) (cl : List (Str × Addr)) (fp : List Addr), DTs (X.blk s H scope (compEnvC scope cl C X.env) fp) A W0 ifs c)
    (he : ∀ (s : Shared) (H : Hp) (C : Addr) (cl : List (Str × Addr)) (fp : List Addr), DE (X.blk s H scope (compEnvC scope cl C X.env) fp) A W0 elt e)
    (hv : ∀ i ∈ t.at_, i ∈ own.map (·.2) := by decide) (hf : ∀ x, foldedSetIterable iter X.env x = pure x := by intro _; rfl) :
    OE X A W (.ListComp elt [⟨tg, iter, ifs, 0⟩] scope pos) (lc fi t c e (own.map (·.2))) := peI (pe_lc hc hN hi ok hg ht he hf) fun σ H Q h => lc_ok hs hv h
end
end DL

/-! The data layer, part 6: statements, calls, defs. -/
namespace DL
open PySem PySem.Spec PyProof.Rows L2

/-- a statement's outcome -/
inductive SO where
  | nx (ρ : Rho)
  | rt (d : D)
  | ro (xs : List D)
  | bk (ρ : Rho)
  | ct (ρ : Rho)
  | ex (c : Exc)
  | bad
def Po [Wd] (A : Amb) (W : WX) (E : Ends) (F : Hp) : SO → Prop
  | .nx ρ => ∀ σ F' H', Sim A F' H' σ ρ → Same F F' → E.nx σ H'
  | .rt d => ∀ v F' H', Ext A.F0 A.H0 F' H' → Is F' v d → E.rt v H'
  | .ro xs => ∀ p vs F' H', Ext A.F0 A.H0 F' H' → F' p = none → A.H0 p = none → H' p = some (.lst vs) → vs.length ≤ sizeLine → IsA F' vs xs → E.rt (.ref p) H'
  | .bk ρ => ∀ σ F' H', Sim A F' H' σ ρ → Same F F' → E.bk σ H'
  | .ct ρ => ∀ σ F' H', Sim A F' H' σ ρ → Same F F' → E.ct σ H'
  | .ex c => ∀ (σ : L2.St) cls dd F' H', Ext A.F0 A.H0 F' H' → Same F F' → σ.length = A.n → Zx A.Z c cls dd F' → W cls dd σ H'
  | .bad => False
def tS [Wd] (A : Amb) (W : WX) (g : Rho → SO) : TS := fun E σ H => ∃ F ρ, Sim A F H σ ρ ∧ Po A W E F (g ρ)
theorem psI [Wd] {X : Cx} {st : Stmt} {t t' : TS} (h : PS X st t) (i : ∀ E σ H, t' E σ H → t E σ H) : PS X st t' := ⟨fun pins s σ H E I q => h.run pins s σ H E I (i _ _ _ q)⟩
theorem pssI [Wd] {X : Cx} {st : List Stmt} {t t' : TS} (h : PSs X st t) (i : ∀ E σ H, t' E σ H → t E σ H) : PSs X st t' := ⟨fun pins s σ H E I q => h.run pins s σ H E I (i _ _ _ q)⟩
abbrev DS [Wd] (X : Cx) (A : Amb) (W : WX) (st : Stmt) (g : Rho → SO) : Prop := PS X st (tS A W g)
abbrev DSs [Wd] (X : Cx) (A : Amb) (W : WX) (st : List Stmt) (g : Rho → SO) : Prop := PSs X st (tS A W g)
theorem Po.pex [Wd] {A : Amb} {W : WX} {E : Ends} {F H : Hp} {σ : L2.St} {ρ : Rho} {c : Exc} (S : Sim A F H σ ρ) (h : Po A W E F (.ex c)) : Pex A W F H σ c :=
  fun cls dd F' H' x z => h σ cls dd F' H' (S.ext.trans x) x.up (S.len.trans S.num) z
theorem Po.mono [Wd] {A : Amb} {W : WX} {E : Ends} {F F' : Hp} (h : Same F F') : ∀ {o : SO}, Po A W E F o → Po A W E F' o
  | .nx _, q => fun σ F2 H2 S e => q σ F2 H2 S (h.trans e)
  | .rt _, q => q
  | .ro _, q => q
  | .bk _, q => fun σ F2 H2 S e => q σ F2 H2 S (h.trans e)
  | .ct _, q => fun σ F2 H2 S e => q σ F2 H2 S (h.trans e)
  | .ex _, q => fun σ cls dd F2 H2 x e l z => q σ cls dd F2 H2 x (h.trans e) l z
  | .bad, q => q

/-! ### small statements -/
def thenS {α : Type} (f : Rho → Res α) (k : Rho → α → SO) : Rho → SO := fun ρ => match f ρ with
  | .ok a => k ρ a
  | .ex c => .ex c
  | .bad => .bad
def retS (f : Rho → Res D) : Rho → SO := thenS f fun _ d => .rt d
def retO (f : Rho → Res (List D)) : Rho → SO := thenS f fun _ d => .ro d
def retN : Rho → SO := fun _ => .rt .none
def dropS (f : Rho → Res D) : Rho → SO := thenS f fun ρ _ => .nx ρ
def setS (i : Nat) (f : Rho → Res D) : Rho → SO := thenS f fun ρ d => .nx (ρ.set i (some (.d d)))
def setO (i : Nat) (f : Rho → Res (List D)) : Rho → SO := thenS f fun ρ d => .nx (ρ.set i (some (.own d)))
def tgtS (t : Tg) (f : Rho → Res D) : Rho → SO := thenS f fun ρ d => match t.run d ρ with
  | .ok ρ' => .nx ρ'
  | _ => .bad
section
variable [Wd] {X : Cx} {A : Amb} {W : WX} {e : Expr} {f : Rho → Res D} {fo : Rho → Res (List D)} {pos : Pos}
/-- from a value's reading to a statement's -/
theorem then_D {k : Rho → D → SO} {E : Ends} {σ : L2.St} {H : Hp} {Q : VK} (h : tS A W (thenS f k) E σ H)
    (i : ∀ F ρ d, Sim A F H σ ρ → Po A W E F (k ρ d) → ∀ v F' H', Ext F H F' H' → Is F' v d → Q v H') : tD A W f σ H Q := by
  obtain ⟨F, ρ, S, q⟩ := h
  refine ⟨F, ρ, S, ?_⟩
  unfold thenS at q
  cases hf : f ρ with
  | bad => rw [hf] at q; exact q
  | ex c => rw [hf] at q; exact q.pex S
  | ok d => rw [hf] at q; exact i F ρ d S q
theorem then_O {k : Rho → List D → SO} {E : Ends} {σ : L2.St} {H : Hp} {Q : VK} (h : tS A W (thenS fo k) E σ H)
    (i : ∀ F ρ d, Sim A F H σ ρ → Po A W E F (k ρ d) → ∀ p vs F' H', Ext F H F' H' → F' p = none → H p = none → H' p = some (.lst vs) → vs.length ≤ sizeLine → IsA F' vs d → Q (.ref p) H') : tO A W fo σ H Q := by
  obtain ⟨F, ρ, S, q⟩ := h
  refine ⟨F, ρ, S, ?_⟩
  unfold thenS at q
  cases hf : fo ρ with
  | bad => rw [hf] at q; exact q
  | ex c => rw [hf] at q; exact q.pex S
  | ok d => rw [hf] at q; exact i F ρ d S q
theorem s_ret (h : DE X A W e f) : DS X A W (.Return (some e) pos) (retS f) := psI (ps_ret h) fun E σ H q => then_D q fun F ρ d S q v F' H' x i => q v F' H' (S.ext.trans x) i
theorem s_retO (h : OE X A W e fo) : DS X A W (.Return (some e) pos) (retO fo) := psI (ps_ret h) fun E σ H q => then_O q fun F ρ d S q p vs F' H' x h1 h2 h3 h4 h5 => q p vs F' H' (S.ext.trans x) h1 (Same.free S.ext.keep h2) h3 h4 h5
theorem s_retN : DS X A W (.Return none pos) retN := psI ps_retN fun E σ H ⟨F, ρ, S, q⟩ => q .non F H S.ext .non
theorem s_drop (h : DE X A W e f) (hs : swapsWith e none pos.line X.env = pure false := by rfl) : DS X A W (.Expr e pos) (dropS f) := psI (ps_expr h hs) fun E σ H q => then_D q fun F ρ d S q v F' H' x i => q σ F' H' (S.grow x) x.up
theorem s_set (i : Nat) {x : Str} {pos' : Pos} (hN : X.N.Nodup) (h : DE X A W e f) (hi : X.N[i]? = some x := by rfl) (hx : Loc X.env.scope x := by first | exact Or.inl rfl | exact Or.inr rfl) (hs : swapsWith e (some (.Name x pos')) pos.line X.env = pure false := by rfl)
    (hf : X.fn x = true ∨ X.env.scope.names.lookup x = some .local := by first | exact .inl rfl | exact .inr rfl | assumption) : DS X A W (.Assign [.Name x pos'] e pos) (setS i f) :=
  psI (ps_set hN hi hx h hs hf) fun E σ H q => then_D q fun F ρ d S q v F' H' x i => q _ F' H' ((S.grow x).setD i) x.up
theorem s_setO (i : Nat) {x : Str} {pos' : Pos} (hN : X.N.Nodup) (h : OE X A W e fo) (hi : X.N[i]? = some x := by rfl) (hx : Loc X.env.scope x := by first | exact Or.inl rfl | exact Or.inr rfl) (hs : swapsWith e (some (.Name x pos')) pos.line X.env = pure false := by rfl)
    (hf : X.fn x = true ∨ X.env.scope.names.lookup x = some .local := by first | exact .inl rfl | exact .inr rfl | assumption) : DS X A W (.Assign [.Name x pos'] e pos) (setO i fo) :=
  psI (ps_set hN hi hx h hs hf) fun E σ H q => then_O q fun F ρ d S q p vs F' H' x h1 h2 h3 h4 h5 =>
    q _ F' H' ((S.grow x).setO ⟨p, vs, rfl, h1, Same.free S.ext.keep h2, h3, h4, h5⟩ fun j b _ e o => S.new h2 j b e o) x.up
theorem s_tgt {tg : Expr} {t : Tg} {g : TG} (h : DE X A W e f) (hg : PG X tg g) (hs : TgSim t g) (h0 : swapsWithSole [tg] e pos.line X.env = pure false := by rfl) (hw : swappedStores [tg] e X.env = pure none := by rfl)
    (h1 : (assignEach [tg] X.env).map (·.2) = [assign tg X.env] := by rfl) : DS X A W (.Assign [tg] e pos) (tgtS t f) :=
  psI (ps_asg h hg h0 hw h1) fun E σ H q => then_D q fun F ρ d S q v F' H' x i => by
    cases hr : t.run d ρ with
    | ok ρ' => rw [hr] at q; exact hs A F' H' σ ρ ρ' v d _ (S.grow x) i hr fun σ' S' _ _ => q σ' F' H' S' x.up
    | ex c => rw [hr] at q; exact q.elim
    | bad => rw [hr] at q; exact q.elim
/-- name = [..] on one line -/
theorem s_setLc (i : Nat) {y : Str} {py : Pos} {elt tg iter : Expr} {ifs : List Expr} {scope : Scope} {own : List (Str × Nat)} {spos : Pos} {fi : Rho → Res (List D)} {t : Tg} {g : TG} {c : Rho → Res Bool} {e : Rho → Res D} (hc : X.calm = true) (hN : X.N.Nodup)
    (hsw : swapsWith (.ListComp elt [⟨tg, iter, ifs, 0⟩] scope pos) (some (.Name y py)) spos.line X.env = pure true) (hi : IH X A W tg iter fi) (ok : BlkOk X.N X.env.scope scope own)
    (hg : ∀ (s : Shared) (H : Hp) (C : Addr) (cl : List (Str × Addr)) (fp : List Addr), PG (X.blk s H scope (compEnvC scope cl C X.env) fp) tg g) (hs : TgSim t g)
    (ht : ∀ (s : Shared) (H : Hp) (C : Addr) (cl : List (Str × Addr)) (fp : List Addr), DTs (X.blk s H scope (compEnvC scope cl C X.env) fp) A W0 ifs c)
    (he : ∀ (s : Shared) (H : Hp) (C : Addr) (cl : List (Str × Addr)) (fp : List Addr), DE (X.blk s H scope (compEnvC scope cl C X.env) fp) A W0 elt e)
    (hy : X.N[i]? = some y := by rfl) (hyl : X.env.scope.names.lookup y = some .local := by rfl) (hv : ∀ i ∈ t.at_, i ∈ own.map (·.2) := by decide) (hf : ∀ x, foldedSetIterable iter X.env x = pure x := by intro _; rfl) :
    DS X A W (.Assign [.Name y py] (.ListComp elt [⟨tg, iter, ifs, 0⟩] scope pos) spos) (setS i (frz (lc fi t c e (own.map (·.2))))) :=
  psI (ps_setLc hc hN hy hyl hsw hi ok hg ht he hf) fun E σ H q => lc_ok hs hv (Q := fun x H1 => gName i x σ H1 E.nx) (by
    obtain ⟨F, ρ, S, q⟩ := q
    refine ⟨F, ρ, S, ?_⟩
    unfold setS thenS frz at q
    cases hl : lc fi t c e (own.map (·.2)) ρ with
    | bad => rw [hl] at q; exact q
    | ex c => rw [hl] at q; exact q.pex S
    | ok ds =>
      rw [hl] at q
      intro p vs F' H' x h1 h2 h3 h4 h5
      have x' := x.freeze h1 h2 h3
      exact q _ _ H' ((S.grow x').setD (.lst (.inl upd_same) h4 (h5.mono (same_upd h1)))) x'.up)
theorem s_pass : DS X A W (.Pass pos) SO.nx := psI ps_pass fun E σ H ⟨F, ρ, S, q⟩ => q σ F H S (Same.refl _)
theorem s_break : DS X A W (.Break pos) SO.bk := psI ps_break fun E σ H ⟨F, ρ, S, q⟩ => q σ F H S (Same.refl _)
theorem s_cont : DS X A W (.Continue pos) SO.ct := psI ps_continue fun E σ H ⟨F, ρ, S, q⟩ => q σ F H S (Same.refl _)
theorem s_doc {x j pos pos'} : DS X A W (.Expr (.Constant (.str x) j pos) pos') SO.nx := psI ps_doc fun E σ H ⟨F, ρ, S, q⟩ => q σ F H S (Same.refl _)
end

/-! ### blocks, if -/
def seqS (g k : Rho → SO) : Rho → SO := fun ρ => match g ρ with
  | .nx ρ' => k ρ'
  | o => o
def ifS (c : Rho → Res Bool) (g k : Rho → SO) : Rho → SO := thenS c fun ρ b => if b = true then g ρ else k ρ
section
variable [Wd] {X : Cx} {A : Amb} {W : WX} {st : Stmt} {rest : List Stmt} {g k : Rho → SO} {pos : Pos}
theorem ss_nil : DSs X A W [] SO.nx := pssI pss_nil fun E σ H ⟨F, ρ, S, q⟩ => q σ F H S (Same.refl _)
theorem ss_one (h : DS X A W st g) : DSs X A W [st] g := pss_one h
theorem ss_cons (h : DS X A W st g) (r : DSs X A W rest k) : DSs X A W (st :: rest) (seqS g k) := pssI (pss_cons h r) fun E σ H ⟨F, ρ, S, q⟩ => ⟨F, ρ, S, by
  unfold seqS at q
  cases hg : g ρ with
  | nx ρ' => rw [hg] at q; exact fun σ' F' H' S' e => ⟨F', ρ', S', q.mono e⟩
  | rt d => rw [hg] at q; exact q
  | ro d => rw [hg] at q; exact q
  | bk d => rw [hg] at q; exact q
  | ct d => rw [hg] at q; exact q
  | ex d => rw [hg] at q; exact q
  | bad => rw [hg] at q; exact q⟩
theorem s_if {c : Expr} {a b : List Stmt} {tc : Rho → Res Bool} (hc : DT X A W c tc) (ha : DSs X A W a g) (hb : DSs X A W b k) : DS X A W (.If c a b pos) (ifS tc g k) := psI (ps_if hc ha hb) fun E σ H ⟨F, ρ, S, q⟩ => ⟨F, ρ, S, by
  unfold ifS thenS at q
  cases ht : tc ρ with
  | bad => rw [ht] at q; exact q
  | ex c => rw [ht] at q; exact q.pex S
  | ok b =>
    rw [ht] at q
    intro F' H' x
    cases b with
    | true => rw [if_pos rfl]; exact ⟨F', ρ, S.grow x, (show Po A W E F (g ρ) from q).mono x.up⟩
    | false => rw [if_neg Bool.false_ne_true]; exact ⟨F', ρ, S.grow x, (show Po A W E F (k ρ) from q).mono x.up⟩⟩
end

/-! ### for -/
def forL (t : Tg) (b : Rho → SO) : List D → Rho → SO
  | [], ρ => .nx ρ
  | x :: xs, ρ => match t.run x ρ with
    | .ok ρ1 => match b ρ1 with
      | .nx ρ2 => forL t b xs ρ2
      | .ct ρ2 => forL t b xs ρ2
      | .bk ρ2 => .nx ρ2
      | o => o
    | _ => .bad
def forS (fi : Rho → Res (List D)) (t : Tg) (b : Rho → SO) : Rho → SO := thenS fi fun ρ xs => forL t b xs ρ
section
variable [Wd] {X : Cx} {A : Amb} {W : WX} {pos : Pos}
theorem s_for {tg iter : Expr} {body : List Stmt} {fi : Rho → Res (List D)} {t : Tg} {g : TG} {b : Rho → SO} (hp : PassesOwn (model X.prog X.w) X.A X.env X.xe) (hc : X.calm = true) (hi : IF X A W tg iter fi) (hg : PG X tg g) (hs : TgSim t g) (hb : DSs X A W body b)
    (hf : ∀ x, foldedSetIterable iter X.env x = pure x := by intro _; rfl) : DS X A W (.For tg iter body [] pos) (forS fi t b) := psI (ps_for hp hc hi hg hb hf) fun E σ H ⟨F, ρ, S, q⟩ => ⟨F, ρ, S, by
  unfold forS thenS at q
  cases hf : fi ρ with
  | bad => rw [hf] at q; exact q
  | ex c => rw [hf] at q; exact q.pex S
  | ok xs =>
    rw [hf] at q
    intro J F1 H1 x1 J1 hz
    refine ⟨fun i m σ H => ∃ F' ρ', m = xs.length - i ∧ i ≤ xs.length ∧ Sim A F' H σ ρ' ∧ Same F1 F' ∧ Po A W E F (forL t b (xs.drop i) ρ'), ⟨xs.length, F1, ρ, by simp, Nat.zero_le _, S.grow x1, Same.refl _, by simpa using q⟩, ?_⟩
    rintro i m σ2 H2 ⟨F2, ρ2, rfl, hi, S2, e2, q2⟩
    obtain ⟨go, stop⟩ := J1 i F2 H2 e2 S2.le
    by_cases hlt : i < xs.length
    · obtain ⟨g1, g2⟩ := go xs[i] (List.getElem?_eq_getElem hlt)
      rw [List.drop_eq_getElem_cons hlt] at q2
      unfold forL at q2
      refine .inr ⟨g1, fun σ H => ∃ F' ρ', Sim A F' H σ ρ' ∧ Same F1 F' ∧ Po A W E F (forL t b (xs.drop (i + 1)) ρ'), fun σ' H' ⟨F', ρ', a1, a2, a3⟩ => ⟨xs.length - (i + 1), by omega, F', ρ', rfl, hlt, a1, a2, a3⟩, fun v H3 hy => ?_⟩
      obtain ⟨F3, x3, i3⟩ := g2 v H3 hy
      cases hr : t.run xs[i] ρ2 with
      | bad => rw [hr] at q2; exact q2.elim
      | ex c => rw [hr] at q2; exact q2.elim
      | ok ρ3 =>
        rw [hr] at q2
        have e3 : Same F1 F3 := e2.trans x3.up
        refine hs A F3 H3 _ _ ρ3 v _ _ (S2.grow x3) i3 hr fun σ3 S3 _ _ => ⟨F3, ρ3, S3, ?_⟩
        simp only at q2
        cases hbo : b ρ3 with
        | nx ρ4 => rw [hbo] at q2; exact fun σ4 F4 H4 S4 e4 => ⟨F4, ρ4, S4, e3.trans e4, q2⟩
        | ct ρ4 => rw [hbo] at q2; exact fun σ4 F4 H4 S4 e4 => ⟨F4, ρ4, S4, e3.trans e4, q2⟩
        | bk ρ4 => rw [hbo] at q2; exact fun σ4 F4 H4 S4 e4 => q2 σ4 F4 H4 S4 ((x1.up.trans e3).trans e4)
        | rt d => rw [hbo] at q2; exact q2
        | ro d => rw [hbo] at q2; exact q2
        | ex d => rw [hbo] at q2; exact (show Po A W E F (.ex d) from q2).mono (x1.up.trans e3)
        | bad => rw [hbo] at q2; exact q2
    · have ei : i = xs.length := by omega
      subst ei
      rw [List.drop_length] at q2
      exact .inl ⟨stop (Nat.le_refl _), q2 σ2 F2 H2 S2 (x1.up.trans e2)⟩⟩
end

/-! ### while -/
def whileN (c : Rho → Res Bool) (b : Rho → SO) : Nat → Rho → Option SO
  | 0, _ => none
  | n + 1, ρ => match c ρ with
    | .ok true => match b ρ with
      | .nx ρ2 => whileN c b n ρ2
      | .ct ρ2 => whileN c b n ρ2
      | .bk ρ2 => some (.nx ρ2)
      | o => some o
    | .ok false => some (.nx ρ)
    | .ex c => some (.ex c)
    | .bad => some .bad
theorem whileN_succ {c : Rho → Res Bool} {b : Rho → SO} : ∀ {n : Nat} {ρ : Rho} {o : SO}, whileN c b n ρ = some o → whileN c b (n + 1) ρ = some o
  | 0, _, _, h => by cases h
  | n + 1, ρ, o, h => by
    unfold whileN at h ⊢
    cases hc : c ρ with
    | bad => rw [hc] at h; exact h
    | ex e => rw [hc] at h; exact h
    | ok t =>
      rw [hc] at h
      cases t with
      | false => exact h
      | true =>
        simp only at h ⊢
        cases hb : b ρ with
        | nx ρ2 => rw [hb] at h; exact whileN_succ h
        | ct ρ2 => rw [hb] at h; exact whileN_succ h
        | bk ρ2 => rw [hb] at h; exact h
        | rt d => rw [hb] at h; exact h
        | ro d => rw [hb] at h; exact h
        | ex d => rw [hb] at h; exact h
        | bad => rw [hb] at h; exact h
theorem whileN_le {c : Rho → Res Bool} {b : Rho → SO} {ρ : Rho} {o : SO} {n m : Nat} (h : whileN c b n ρ = some o) (hm : n ≤ m) : whileN c b m ρ = some o := by
  induction hm with
  | refl => exact h
  | step _ ih => exact whileN_succ ih
open Classical in
noncomputable def whileS (c : Rho → Res Bool) (b : Rho → SO) : Rho → SO := fun ρ => if h : ∃ o n, whileN c b n ρ = some o then h.choose else .bad
theorem whileS_of {c : Rho → Res Bool} {b : Rho → SO} {ρ : Rho} {o : SO} {n : Nat} (h : whileN c b n ρ = some o) : whileS c b ρ = o := by
  have he : ∃ o n, whileN c b n ρ = some o := ⟨o, n, h⟩
  unfold whileS
  rw [dif_pos he]
  obtain ⟨m, hm⟩ := he.choose_spec
  have h1 := whileN_le h (Nat.le_max_left n m)
  have h2 := whileN_le hm (Nat.le_max_right n m)
  exact Option.some.inj (h2.symm.trans h1)
theorem whileS_has {c : Rho → Res Bool} {b : Rho → SO} {ρ : Rho} : (∃ n, whileN c b n ρ = some (whileS c b ρ)) ∨ ((∀ n, whileN c b n ρ = none) ∧ whileS c b ρ = .bad) := by
  by_cases he : ∃ o n, whileN c b n ρ = some o
  · obtain ⟨o, n, h⟩ := he
    exact .inl ⟨n, by rw [whileS_of h]; exact h⟩
  · refine .inr ⟨fun n => ?_, dif_neg he⟩
    cases h : whileN c b n ρ with
    | none => rfl
    | some o => exact absurd ⟨o, n, h⟩ he
/-- one turn -/
theorem whileS_eq (c : Rho → Res Bool) (b : Rho → SO) (ρ : Rho) : whileS c b ρ = match c ρ with
    | .ok true => (match b ρ with
      | .nx ρ2 => whileS c b ρ2
      | .ct ρ2 => whileS c b ρ2
      | .bk ρ2 => .nx ρ2
      | o => o)
    | .ok false => .nx ρ
    | .ex c => .ex c
    | .bad => .bad := by
  have go : ∀ ρ2, (∀ n, whileN c b (n + 1) ρ = whileN c b n ρ2) → whileS c b ρ = whileS c b ρ2 := fun ρ2 h => by
    rcases whileS_has (c := c) (b := b) (ρ := ρ2) with ⟨n, hn⟩ | ⟨h1, h2⟩
    · exact whileS_of (n := n + 1) (by rw [h, hn])
    · rw [h2]
      rcases whileS_has (c := c) (b := b) (ρ := ρ) with ⟨n, hn⟩ | ⟨_, h2⟩
      · cases n with
        | zero => cases hn
        | succ n => rw [h, h1] at hn; cases hn
      · exact h2
  cases hc : c ρ with
  | bad => exact whileS_of (n := 1) (by unfold whileN; rw [hc])
  | ex e => exact whileS_of (n := 1) (by unfold whileN; rw [hc])
  | ok t =>
    cases t with
    | false => exact whileS_of (n := 1) (by unfold whileN; rw [hc])
    | true =>
      simp only
      cases hb : b ρ with
      | nx ρ2 => exact go ρ2 fun n => by conv => lhs; unfold whileN; rw [hc]; simp only [hb]
      | ct ρ2 => exact go ρ2 fun n => by conv => lhs; unfold whileN; rw [hc]; simp only [hb]
      | bk ρ2 => exact whileS_of (n := 1) (by unfold whileN; rw [hc]; simp only [hb])
      | rt d => exact whileS_of (n := 1) (by unfold whileN; rw [hc]; simp only [hb])
      | ro d => exact whileS_of (n := 1) (by unfold whileN; rw [hc]; simp only [hb])
      | ex d => exact whileS_of (n := 1) (by unfold whileN; rw [hc]; simp only [hb])
      | bad => exact whileS_of (n := 1) (by unfold whileN; rw [hc]; simp only [hb])
section
variable [Wd] {X : Cx} {A : Amb} {W : WX} {pos : Pos}
theorem s_while {c : Expr} {body : List Stmt} {tc : Rho → Res Bool} {b : Rho → SO} (hp : PassesOwn (model X.prog X.w) X.A X.env X.xe) (hc : DT X A W c tc) (hb : DSs X A W body b) : DS X A W (.While c body [] pos) (whileS tc b) := psI (ps_while hp hc hb) fun E σ H ⟨F, ρ, S, q⟩ => by
  rcases whileS_has (c := tc) (b := b) (ρ := ρ) with ⟨n, hn⟩ | ⟨_, h2⟩
  · refine ⟨fun m σ H => ∃ F' ρ' o, Sim A F' H σ ρ' ∧ Same F F' ∧ whileN tc b m ρ' = some o ∧ Po A W E F o, ⟨n, F, ρ, _, S, Same.refl _, hn, q⟩, ?_⟩
    rintro m σ2 H2 ⟨F2, ρ2, o, S2, e2, h2, q2⟩
    cases m with
    | zero => cases h2
    | succ m =>
      unfold whileN at h2
      refine ⟨F2, ρ2, S2, ?_⟩
      cases ht : tc ρ2 with
      | bad => rw [ht] at h2; cases h2; exact q2
      | ex c => rw [ht] at h2; cases h2; exact Po.pex (E := E) S2 (Po.mono e2 q2)
      | ok t =>
        rw [ht] at h2
        intro F3 H3 x3
        cases t with
        | false =>
          rw [if_neg Bool.false_ne_true]
          cases h2
          exact q2 σ2 F3 H3 (S2.grow x3) (e2.trans x3.up)
        | true =>
          rw [if_pos rfl]
          simp only at h2
          refine ⟨fun σ H => ∃ F' ρ' o, Sim A F' H σ ρ' ∧ Same F F' ∧ whileN tc b m ρ' = some o ∧ Po A W E F o, fun σ' H' h => ⟨m, Nat.lt_succ_self _, h⟩, F3, ρ2, S2.grow x3, ?_⟩
          have e3 := e2.trans x3.up
          cases hbo : b ρ2 with
          | nx ρ4 => rw [hbo] at h2; exact fun σ4 F4 H4 S4 e4 => ⟨F4, ρ4, o, S4, e3.trans e4, h2, q2⟩
          | ct ρ4 => rw [hbo] at h2; exact fun σ4 F4 H4 S4 e4 => ⟨F4, ρ4, o, S4, e3.trans e4, h2, q2⟩
          | bk ρ4 => rw [hbo] at h2; cases h2; exact fun σ4 F4 H4 S4 e4 => q2 σ4 F4 H4 S4 (e3.trans e4)
          | rt d => rw [hbo] at h2; cases h2; exact q2
          | ro d => rw [hbo] at h2; cases h2; exact q2
          | ex d => rw [hbo] at h2; cases h2; exact (show Po A W E F (.ex d) from q2).mono e3
          | bad => rw [hbo] at h2; cases h2; exact q2
  · rw [h2] at q
    exact q.elim
end

/-! ### lists of one's own -/
def ownS (i : Nat) (k : List D → Rho → SO) : Rho → SO := fun ρ => match ρ[i]? with
  | some (some (.own xs)) => k xs ρ
  | _ => .bad
def appS (i : Nat) (f : Rho → Res D) : Rho → SO := ownS i fun xs => thenS f fun ρ d => if xs.length < sizeLine then .nx (ρ.set i (some (.own (xs ++ [d])))) else .bad
def extS (i : Nat) (f : Rho → Res D) : Rho → SO := ownS i fun xs => thenS f fun ρ d => match d with
  | .list ys => if xs.length + ys.length ≤ sizeLine then .nx (ρ.set i (some (.own (xs ++ ys)))) else .bad
  | _ => .bad
/-- what is one's own is rewritten -/
theorem Sim.putW [Wd] {A : Amb} {F H : Hp} {σ : L2.St} {ρ : Rho} {i : Nat} {p : Addr} {x y : B} {o : HO} (S : Sim A F H σ ρ) (h : ρ[i]? = some (some x)) (hx : x.isOwn = true) (hy : y.isOwn = true) (hv : σ[i]? = some (some (.ref p))) (hF : F p = none) (h0 : A.H0 p = none)
    (hb : Bd A F (upd H p o) (.ref p) y) : Sim A F (upd H p o) σ (ρ.set i (some y)) := by
  have hlt : i < ρ.length := (List.getElem?_eq_some_iff.mp h).1
  have back : ∀ {j : Nat}, i ≠ j → (ρ.set i (some y))[j]? = ρ[j]? := fun hj => List.getElem?_set_ne hj
  refine ⟨⟨S.ext.up, fun b o e => ?_, fun b o e => ?_, S.ext.new⟩, by simp [S.len], by simp [S.num], fun j b e => ?_, fun j k b c w hjk e1 e2 o1 o2 e3 e4 => ?_⟩
  · rw [upd_ne (ne_of_none e h0)]; exact S.ext.keep _ _ e
  · rw [upd_ne (ne_of_none e hF)]; exact S.le _ _ e
  · by_cases hj : i = j
    · subst hj
      rw [List.getElem?_set_self hlt] at e
      cases e
      exact ⟨_, hv, hb⟩
    · rw [back hj] at e
      obtain ⟨v, e1, e2⟩ := S.val j b e
      refine ⟨v, e1, ?_⟩
      cases ho : b.isOwn with
      | false => cases b with
        | d x => exact e2
        | raw => exact e2
        | _ => cases ho
      | true =>
        obtain ⟨q, ob, e3, hq, hq0, hqp⟩ := Bd.at ho e2
        subst e3
        have hne : q ≠ p := fun z => by
          subst z
          exact S.sep i j _ _ _ hj h e hx ho hv e1
        exact Bd.move ho e2 (Same.refl _) hq (upd_ne hne)
  · have old : ∀ {j : Nat} {b : B}, (ρ.set i (some y))[j]? = some (some b) → b.isOwn = true → ∃ b', ρ[j]? = some (some b') ∧ b'.isOwn = true := fun {j b} e o => by
      by_cases hj : i = j
      · subst hj; exact ⟨_, h, hx⟩
      · rw [back hj] at e; exact ⟨b, e, o⟩
    obtain ⟨b', f1, g1⟩ := old e1 o1
    obtain ⟨c', f2, g2⟩ := old e2 o2
    exact S.sep j k b' c' w hjk f1 f2 g1 g2 e3 e4
theorem Sim.put [Wd] {A : Amb} {F H : Hp} {σ : L2.St} {ρ : Rho} {i : Nat} {p : Addr} {xs ys : List D} {vs ws : List V} (S : Sim A F H σ ρ) (h : ρ[i]? = some (some (.own xs))) (hv : σ[i]? = some (some (.ref p))) (hF : F p = none) (h0 : A.H0 p = none) (hp : H p = some (.lst vs))
    (hz : ws.length ≤ sizeLine) (hi : IsA F ws ys) : Sim A F (upd H p (.lst ws)) σ (ρ.set i (some (.own ys))) :=
  S.putW (x := .own xs) (y := .own ys) h rfl rfl hv hF h0 ⟨p, ws, rfl, hF, h0, upd_same, hz, hi⟩
theorem own_of [Wd] {A : Amb} {W : WX} {E : Ends} {F : Hp} {ρ : Rho} {i : Nat} {k : List D → Rho → SO} (h : Po A W E F (ownS i k ρ)) : ∃ xs, ρ[i]? = some (some (.own xs)) ∧ Po A W E F (k xs ρ) := by
  unfold ownS at h
  cases hr : ρ[i]? with
  | none => rw [hr] at h; exact h.elim
  | some o =>
    rw [hr] at h
    cases o with
    | none => exact h.elim
    | some b =>
      cases b with
      | d x => exact h.elim
      | dct x => exact h.elim
      | raw => exact h.elim
      | own xs => exact ⟨xs, rfl, h⟩
section
variable [Wd] {X : Cx} {A : Amb} {W : WX} {e : Expr} {f : Rho → Res D}
/-- xs.append(e), xs in slot i -/
theorem s_append (i : Nat) {x : Str} {apos cpos p1 pos : Pos} (h : DE X A W e f) (hN : X.N[i]? = some x := by rfl) (hv : Vis X.env.scope x := by first | exact Or.inl rfl | exact Or.inr (Or.inl rfl) | exact Or.inr (Or.inr rfl)) (hd : (x == ("__debug__" : Str)) = false := by decide)
    (hcd : (x == ("__classdict__" : Str)) = false := by decide) (hbase : attributeBase (.Name x p1) "append" X.env (eval (.Name x p1) X.env) = eval (.Name x p1) X.env := by rfl)
    (hfew : ((backTo cpos (starEach (e :: []) X.env)).all (fun x => !x.1) && (backToKw cpos (keywordEach [] X.env)).all (fun x => x.1.isSome)
      && decide ((e :: []).length + ([] : List Keyword).length + (if ([] : List Keyword).isEmpty then 0 else 1) < 30)) = true := by rfl)
    (hline : (apos.endLine == cpos.line) = true := by rfl) (hs : starEach (e :: []) X.env = (false, eval e X.env) :: starEach [] X.env := by rfl) (hplain : (backTo cpos (starEach [] X.env)).any (·.1) = false := by rfl)
    (hsw : swapsWith (.Call (.Attribute (.Name x p1) "append" apos) [e] [] cpos) none pos.line X.env = pure false := by rfl) :
    DS X A W (.Expr (.Call (.Attribute (.Name x p1) "append" apos) [e] [] cpos) pos) (appS i f) :=
  psI (ps_expr (pe_bm PySem.F.plainAttrs_list PySem.F.slot_list_append PySem.F.type_list_append mt_append (pe_var hN hv hd hcd) (pa_cons h pa_nil hs) hbase hfew hline hs hplain) hsw) fun E σ H ⟨F, ρ, S, q⟩ => by
    unfold appS at q
    obtain ⟨xs, hr, q⟩ := own_of q
    obtain ⟨v, e1, p, vs, rfl, hF, h0, hp, hz, hA⟩ := S.val i _ hr
    refine ⟨_, e1, .inl ⟨rfl, _, .inl (.inl hp)⟩, F, ρ, S, ?_⟩
    unfold thenS at q
    cases hf : f ρ with
    | bad => rw [hf] at q; exact q
    | ex c => rw [hf] at q; exact Po.pex (E := E) S q
    | ok d =>
      rw [hf] at q
      simp only at q
      intro w F1 H1 x1 i1
      by_cases hl : xs.length < sizeLine
      · rw [if_pos hl] at q
        have hp1 := x1.keep _ _ hp
        have hl' : vs.length < sizeLine := by rw [hA.length]; exact hl
        refine ⟨p, vs, w, rfl, rfl, hp1, hl', ?_⟩
        exact q σ F1 _ ((S.grow x1).put hr e1 (x1.new _ _ hF hp) h0 hp1 (by rw [List.length_append]; exact hl') ((hA.mono x1.up).append (.cons i1 .nil))) x1.up
      · rw [if_neg hl] at q; exact q.elim
end
end DL

/-! The data layer, part 7: more statements on lists of one's own; calls; defs; raise. -/
namespace DL
open PySem PySem.Spec PyProof.Rows L2

section
variable [Wd] {X : Cx} {A : Amb} {W : WX} {e : Expr} {f : Rho → Res D}
theorem then_B {k : Rho → D → SO} {E : Ends} {σ : L2.St} {H : Hp} {Q : VK} (h : tS A W (thenS f k) E σ H)
    (i : ∀ F ρ d, Sim A F H σ ρ → Po A W E F (k ρ d) → ∀ v F' H', Ext F H F' H' → IsH F' H' v d → Q v H') : tB A W f σ H Q := by
  obtain ⟨F, ρ, S, q⟩ := h
  refine ⟨F, ρ, S, ?_⟩
  unfold thenS at q
  cases hf : f ρ with
  | bad => rw [hf] at q; exact q
  | ex c => rw [hf] at q; exact q.pex S
  | ok d => rw [hf] at q; exact i F ρ d S q
def rExtR : V → List V → Hp → VK → Prop := fun x vs H Q => ∃ l b xs zs, x = .ref l ∧ vs = [.ref b] ∧ H l = some (.lst xs) ∧ Rd H b (.lst zs) ∧ xs.length + zs.length ≤ sizeLine ∧ Q .non (upd H l (.lst (xs ++ zs)))
theorem mt_extR : MtM X "list.extend" rExtR := by
  intro pins s σ H x vs v us Q I rx rv h
  obtain ⟨l, b, xs, zs, rfl, rfl, hH, hB, hz, q⟩ := h
  cases rx
  obtain ⟨u, rfl, ru⟩ := rv.one
  cases ru
  obtain ⟨z, its, n, r, hl, e⟩ := I.lstM hH
  obtain ⟨z2, its2, n2, r2, hl2, e2⟩ := Inv.lstR I hB
  have hsz : its.toArray.size + its2.toArray.size ≤ sizeLine := by rw [List.size_toArray, List.size_toArray]; omega
  have hlong : ¬ (!its.toArray.isEmpty && Builtin.List.listTooLong (its.toArray.size + its2.toArray.size)) = true := by
    rw [notLongL hsz, Bool.and_false]
    exact Bool.false_ne_true
  refine call_meets F.slot_list_extend ⟨_, e, rfl⟩ F.entry_list_extend (F.args_list_extend_2 _ _)
    (AutoSeq1.list_extend_list_list_0 l its.toArray n b its2.toArray n2 hlong (by rw [List.size_toArray]; omega) (by omega)) ⟨e, e2, ?_⟩
  refine ⟨.non, _, I.lset (its' := its ++ its2) hH e (by simp) (r.append r2) ?_, rfl, q⟩
  rw [List.length_append]
  omega
/-- xs.extend(e), xs in slot i -/
theorem s_extend (i : Nat) {x : Str} {apos cpos p1 pos : Pos} (h : BE X A W e f) (hN : X.N[i]? = some x := by rfl) (hv : Vis X.env.scope x := by first | exact Or.inl rfl | exact Or.inr (Or.inl rfl) | exact Or.inr (Or.inr rfl)) (hd : (x == ("__debug__" : Str)) = false := by decide)
    (hcd : (x == ("__classdict__" : Str)) = false := by decide) (hbase : attributeBase (.Name x p1) "extend" X.env (eval (.Name x p1) X.env) = eval (.Name x p1) X.env := by rfl)
    (hfew : ((backTo cpos (starEach (e :: []) X.env)).all (fun x => !x.1) && (backToKw cpos (keywordEach [] X.env)).all (fun x => x.1.isSome)
      && decide ((e :: []).length + ([] : List Keyword).length + (if ([] : List Keyword).isEmpty then 0 else 1) < 30)) = true := by rfl)
    (hline : (apos.endLine == cpos.line) = true := by rfl) (hs : starEach (e :: []) X.env = (false, eval e X.env) :: starEach [] X.env := by rfl) (hplain : (backTo cpos (starEach [] X.env)).any (·.1) = false := by rfl)
    (hsw : swapsWith (.Call (.Attribute (.Name x p1) "extend" apos) [e] [] cpos) none pos.line X.env = pure false := by rfl) :
    DS X A W (.Expr (.Call (.Attribute (.Name x p1) "extend" apos) [e] [] cpos) pos) (extS i f) :=
  psI (ps_expr (pe_bm PySem.F.plainAttrs_list PySem.F.slot_list_extend PySem.F.type_list_extend mt_extR (pe_var hN hv hd hcd) (pa_cons h pa_nil hs) hbase hfew hline hs hplain) hsw) fun E σ H ⟨F, ρ, S, q⟩ => by
    unfold extS at q
    obtain ⟨xs, hr, q⟩ := own_of q
    obtain ⟨v, e1, p, vs, rfl, hF, h0, hp, hz, hA⟩ := S.val i _ hr
    refine ⟨_, e1, .inl ⟨rfl, _, .inl (.inl hp)⟩, F, ρ, S, ?_⟩
    unfold thenS at q
    cases hf : f ρ with
    | bad => rw [hf] at q; exact q
    | ex c => rw [hf] at q; exact Po.pex (E := E) S q
    | ok d =>
      rw [hf] at q
      simp only at q
      intro w F1 H1 x1 i1
      cases d with
      | list ys =>
        simp only at q
        by_cases hl : xs.length + ys.length ≤ sizeLine
        · rw [if_pos hl] at q
          have hp1 := x1.keep _ _ hp
          obtain ⟨p', ws, rfl, hp', z', t'⟩ := i1.list x1.le
          have hl' : vs.length + ws.length ≤ sizeLine := by rw [hA.length, t'.length]; exact hl
          refine ⟨p, p', vs, ws, rfl, rfl, hp1, hp', hl', ?_⟩
          exact q σ F1 _ ((S.grow x1).put hr e1 (x1.new _ _ hF hp) h0 hp1 (by rw [List.length_append]; exact hl') ((hA.mono x1.up).append t')) x1.up
        · rw [if_neg hl] at q; exact q.elim
      | _ => exact q.elim
end

/-! ### expressions that change a list of one's own -/
def tE [Wd] (A : Amb) (W : WX) (f : Rho → Res (D × Rho)) : TE := fun σ H Q => ∃ F ρ, Sim A F H σ ρ ∧ match f ρ with
  | .ok r => ∀ v F' H', Sim A F' H' σ r.2 → Same F F' → Is F' v r.1 → Q v H'
  | .ex c => Pex A W F H σ c
  | .bad => False
abbrev EE [Wd] (X : Cx) (A : Amb) (W : WX) (e : Expr) (f : Rho → Res (D × Rho)) : Prop := PE X e (tE A W f)
def ownR {α : Type} (i : Nat) (k : List D → Rho → Res α) : Rho → Res α := fun ρ => match ρ[i]? with
  | some (some (.own xs)) => k xs ρ
  | _ => .bad
def popD (i : Nat) : Rho → Res (D × Rho) := ownR i fun xs ρ => (Res.of xs.getLast?).map fun y => (y, ρ.set i (some (.own xs.dropLast)))
def popAtD (i : Nat) (f : Rho → Res D) : Rho → Res (D × Rho) := ownR i fun xs ρ => (f ρ).bind fun d => match d with
  | .int k => if 0 ≤ k then (Res.of xs[k.toNat]?).map fun y => (y, ρ.set i (some (.own (xs.eraseIdx k.toNat)))) else .bad
  | _ => .bad
section
variable [Wd] {X : Cx} {A : Amb} {W : WX} {e : Expr} {f : Rho → Res D}
theorem ownR_of {α : Type} {ρ : Rho} {i : Nat} {k : List D → Rho → Res α} (h : ownR i k ρ ≠ .bad) : ∃ xs, ρ[i]? = some (some (.own xs)) ∧ ownR i k ρ = k xs ρ := by
  unfold ownR at h ⊢
  cases hr : ρ[i]? with
  | none => rw [hr] at h; exact absurd rfl h
  | some o =>
    rw [hr] at h
    cases o with
    | none => exact absurd rfl h
    | some b =>
      cases b with
      | d x => exact absurd rfl h
      | dct x => exact absurd rfl h
      | raw => exact absurd rfl h
      | own xs => exact ⟨xs, rfl, rfl⟩
theorem e_popAt (i : Nat) {x : Str} {apos cpos p1 : Pos} (h : BE X A W e f) (hN : X.N[i]? = some x := by rfl) (hv : Vis X.env.scope x := by first | exact Or.inl rfl | exact Or.inr (Or.inl rfl) | exact Or.inr (Or.inr rfl)) (hd : (x == ("__debug__" : Str)) = false := by decide)
    (hcd : (x == ("__classdict__" : Str)) = false := by decide) (hbase : attributeBase (.Name x p1) "pop" X.env (eval (.Name x p1) X.env) = eval (.Name x p1) X.env := by rfl)
    (hfew : ((backTo cpos (starEach (e :: []) X.env)).all (fun x => !x.1) && (backToKw cpos (keywordEach [] X.env)).all (fun x => x.1.isSome)
      && decide ((e :: []).length + ([] : List Keyword).length + (if ([] : List Keyword).isEmpty then 0 else 1) < 30)) = true := by rfl)
    (hline : (apos.endLine == cpos.line) = true := by rfl) (hs : starEach (e :: []) X.env = (false, eval e X.env) :: starEach [] X.env := by rfl) (hplain : (backTo cpos (starEach [] X.env)).any (·.1) = false := by rfl) :
    EE X A W (.Call (.Attribute (.Name x p1) "pop" apos) [e] [] cpos) (popAtD i f) :=
  peI (pe_bm PySem.F.plainAttrs_list PySem.F.slot_list_pop PySem.F.type_list_pop mt_popAt (pe_var hN hv hd hcd) (pa_cons h pa_nil hs) hbase hfew hline hs hplain) fun σ H Q ⟨F, ρ, S, q⟩ => by
    unfold popAtD at q
    obtain ⟨xs, hr, eq⟩ := ownR_of fun z => by rw [z] at q; exact q
    rw [eq] at q
    obtain ⟨v, e1, p, vs, rfl, hF, h0, hp, hz, hA⟩ := S.val i _ hr
    refine ⟨_, e1, .inl ⟨rfl, _, .inl (.inl hp)⟩, F, ρ, S, ?_⟩
    cases hf : f ρ with
    | bad => rw [hf] at q; exact q
    | ex c => rw [hf] at q; exact q
    | ok d =>
      rw [hf] at q
      simp only [Res.bind_ok] at q
      intro w F1 H1 x1 i1
      cases d with
      | int k =>
        simp only at q
        by_cases hk : 0 ≤ k
        · rw [if_pos hk] at q
          cases hg : xs[k.toNat]? with
          | none => rw [hg] at q; exact q.elim
          | some y =>
            rw [hg] at q
            simp only [Res.of_some, Res.map_ok] at q
            cases i1.int
            have hp1 := x1.keep _ _ hp
            have hA1 := hA.mono x1.up
            obtain ⟨w, hw, iw⟩ := hA1.get hg
            have hlt : k.toNat < vs.length := (List.getElem?_eq_some_iff.mp hw).1
            have hl : sizeLine = 16777216 := sizeLine_eq
            refine ⟨p, vs, k, k.toNat, w, rfl, rfl, hp1, by omega, by omega, PySem.StrLaws.seqIndex_nonneg hk (by omega), hw, ?_⟩
            exact q w F1 _ ((S.grow x1).put hr e1 (x1.new _ _ hF hp) h0 hp1 (Nat.le_trans (len_erase _ _) hz) (hA1.eraseIdx _)) x1.up iw
        · rw [if_neg hk] at q; exact q.elim
      | _ => exact q.elim
theorem e_pop (i : Nat) {x : Str} {apos cpos p1 : Pos} (hN : X.N[i]? = some x := by rfl) (hv : Vis X.env.scope x := by first | exact Or.inl rfl | exact Or.inr (Or.inl rfl) | exact Or.inr (Or.inr rfl)) (hd : (x == ("__debug__" : Str)) = false := by decide)
    (hcd : (x == ("__classdict__" : Str)) = false := by decide) (hbase : attributeBase (.Name x p1) "pop" X.env (eval (.Name x p1) X.env) = eval (.Name x p1) X.env := by rfl)
    (hline : (apos.endLine == cpos.line) = true := by rfl) :
    EE X A W (.Call (.Attribute (.Name x p1) "pop" apos) [] [] cpos) (popD i) :=
  peI (pe_bm0 PySem.F.plainAttrs_list PySem.F.slot_list_pop PySem.F.type_list_pop mt_pop (pe_var hN hv hd hcd) hbase hline) fun σ H Q ⟨F, ρ, S, q⟩ => by
    unfold popD at q
    obtain ⟨xs, hr, eq⟩ := ownR_of fun z => by rw [z] at q; exact q
    rw [eq] at q
    obtain ⟨v, e1, p, vs, rfl, hF, h0, hp, hz, hA⟩ := S.val i _ hr
    refine ⟨_, e1, .inl ⟨rfl, _, .inl (.inl hp)⟩, ?_⟩
    cases hg : xs.getLast? with
    | none => rw [hg] at q; exact q.elim
    | some y =>
      rw [hg] at q
      simp only [Res.of_some, Res.map_ok] at q
      rw [List.getLast?_eq_getElem?] at hg
      obtain ⟨w, hw, iw⟩ := hA.get hg
      rw [← hA.length] at hw
      refine ⟨p, vs, w, rfl, rfl, hp, hw, ?_⟩
      exact q w F _ (S.put hr e1 hF h0 hp (by rw [List.length_dropLast]; omega) hA.dropLast) (Same.refl _) iw
end
def thenE (f : Rho → Res (D × Rho)) (k : Rho → D → SO) : Rho → SO := fun ρ => match f ρ with
  | .ok r => k r.2 r.1
  | .ex c => .ex c
  | .bad => .bad
section
variable [Wd] {X : Cx} {A : Amb} {W : WX} {e : Expr} {f : Rho → Res (D × Rho)} {pos : Pos}
theorem then_E {k : Rho → D → SO} {E : Ends} {σ : L2.St} {H : Hp} {Q : VK} (h : tS A W (thenE f k) E σ H)
    (i : ∀ F ρ d, Po A W E F (k ρ d) → ∀ v F' H', Sim A F' H' σ ρ → Same F F' → Is F' v d → Q v H') : tE A W f σ H Q := by
  obtain ⟨F, ρ, S, q⟩ := h
  refine ⟨F, ρ, S, ?_⟩
  unfold thenE at q
  cases hf : f ρ with
  | bad => rw [hf] at q; exact q
  | ex c => rw [hf] at q; exact q.pex S
  | ok d => rw [hf] at q; exact i F d.2 d.1 q
def dropE (f : Rho → Res (D × Rho)) : Rho → SO := thenE f fun ρ _ => .nx ρ
def setE (i : Nat) (f : Rho → Res (D × Rho)) : Rho → SO := thenE f fun ρ d => .nx (ρ.set i (some (.d d)))
def tgtE (t : Tg) (f : Rho → Res (D × Rho)) : Rho → SO := thenE f fun ρ d => match t.run d ρ with
  | .ok ρ' => .nx ρ'
  | _ => .bad
theorem s_dropE (h : EE X A W e f) (hs : swapsWith e none pos.line X.env = pure false := by rfl) : DS X A W (.Expr e pos) (dropE f) := psI (ps_expr h hs) fun E σ H q => then_E q fun F ρ d q v F' H' S e i => q σ F' H' S e
theorem s_setE (i : Nat) {x : Str} {pos' : Pos} (hN : X.N.Nodup) (h : EE X A W e f) (hi : X.N[i]? = some x := by rfl) (hx : Loc X.env.scope x := by first | exact Or.inl rfl | exact Or.inr rfl) (hs : swapsWith e (some (.Name x pos')) pos.line X.env = pure false := by rfl)
    (hf : X.fn x = true ∨ X.env.scope.names.lookup x = some .local := by first | exact .inl rfl | exact .inr rfl | assumption) : DS X A W (.Assign [.Name x pos'] e pos) (setE i f) :=
  psI (ps_set hN hi hx h hs hf) fun E σ H q => then_E q fun F ρ d q v F' H' S e i => q _ F' H' (S.setD i) e
theorem s_tgtE {tg : Expr} {t : Tg} {g : TG} (h : EE X A W e f) (hg : PG X tg g) (hs : TgSim t g) (h0 : swapsWithSole [tg] e pos.line X.env = pure false := by rfl) (hw : swappedStores [tg] e X.env = pure none := by rfl)
    (h1 : (assignEach [tg] X.env).map (·.2) = [assign tg X.env] := by rfl) : DS X A W (.Assign [tg] e pos) (tgtE t f) :=
  psI (ps_asg h hg h0 hw h1) fun E σ H q => then_E q fun F ρ d q v F' H' S e i => by
    cases hr : t.run d ρ with
    | ok ρ' => rw [hr] at q; exact hs A F' H' σ ρ ρ' v d _ S i hr fun σ' S' _ _ => q σ' F' H' S' e
    | ex c => rw [hr] at q; exact q.elim
    | bad => rw [hr] at q; exact q.elim
def appE (i : Nat) (f : Rho → Res (D × Rho)) : Rho → SO := thenE f fun ρ d => match ρ[i]? with
  | some (some (.own xs)) => if xs.length < sizeLine then .nx (ρ.set i (some (.own (xs ++ [d])))) else .bad
  | _ => .bad
/-- n += e of ints -/
def augS (i : Nat) (f : Rho → Res D) : Rho → SO := fun ρ => match ρ[i]? with
  | some (some (.d (.int a))) => thenS f (fun ρ d => match d with
    | .int b => .nx (ρ.set i (some (.d (.int (a + b)))))
    | _ => .bad) ρ
  | _ => .bad
theorem s_aug (i : Nat) {x : Str} {fd : Rho → Res D} {pos' : Pos} (hN : X.N.Nodup) (h : DE X A W e fd) (hi : X.N[i]? = some x := by rfl) (hx : Loc X.env.scope x := by first | exact Or.inl rfl | exact Or.inr rfl)
    (hf : X.fn x = true ∨ X.env.scope.names.lookup x = some .local := by first | exact .inl rfl | exact .inr rfl | assumption) : DS X A W (.AugAssign (.Name x pos') .Add e pos) (augS i fd) :=
  psI (ps_aug hN hi hx h ip_add hf) fun E σ H ⟨F, ρ, S, q⟩ => by
    unfold augS at q
    split at q
    · rename_i a hr
      obtain ⟨v, e1, e2⟩ := S.val i _ hr
      have e2' : Is F v (.int a) := e2
      cases e2'
      refine ⟨_, e1, F, ρ, S, ?_⟩
      unfold thenS at q
      cases hf : fd ρ with
      | bad => rw [hf] at q; exact q
      | ex c => rw [hf] at q; exact Po.pex (E := E) S q
      | ok d =>
        rw [hf] at q
        intro w F1 H1 x1 i1
        cases d with
        | int b =>
          cases i1
          exact ⟨a, b, rfl, rfl, q _ F1 H1 ((S.grow x1).setD (.int _)) x1.up⟩
        | _ => exact q.elim
    · exact q.elim
end

/-! ### calls -/
inductive RO where
  | rt (d : D)
  | ro (xs : List D)
  | ex (c : Exc)
  | bad
/-- a def's promise by data -/
def spD [Wd] (Z : String → Addr → Prop) (n : Nat) (f : List D → RO) : Sp := fun vs H Q E => ∃ F ds, vs.length = n ∧ Same F H ∧ IsA F vs ds ∧ match f ds with
  | .rt d => ∀ v F' H', Ext F H F' H' → Is F' v d → Q v H'
  | .ro xs => ∀ p us F' H', Ext F H F' H' → F' p = none → H p = none → H' p = some (.lst us) → us.length ≤ sizeLine → IsA F' us xs → Q (.ref p) H'
  | .ex c => ∀ cls dd F' H', Ext F H F' H' → Zx Z c cls dd F' → E cls dd H'
  | .bad => False
def RO.res : RO → Res D
  | .rt d => .ok d
  | .ro xs => .ok (.list xs)
  | .ex c => .ex c
  | .bad => .bad
def RO.own : RO → Res (List D)
  | .ro xs => .ok xs
  | .ex c => .ex c
  | _ => .bad
def callR (n : Nat) (f : List D → RO) (g : Rho → Res (List D)) : Rho → Res D := fun ρ => (g ρ).bind fun ds => if ds.length = n then (f ds).res else .bad
def callO (n : Nat) (f : List D → RO) (g : Rho → Res (List D)) : Rho → Res (List D) := fun ρ => (g ρ).bind fun ds => if ds.length = n then (f ds).own else .bad
section
variable [Wd] {X : Cx} {A : Amb} {W : WX} {k : Nat} {f : Addr} {fd : FuncData} {ps : List Str} {x : Str} {p pos : Pos} {e : Expr} {es : List Expr} {g : Rho → Res (List D)} {fD : List D → RO}
theorem call_D {σ : L2.St} {H : Hp} {Q : VK} {n : Nat} (h : tD A W (callR n fD g) σ H Q) : tCallS (spD A.Z n fD) (WE W) (tAs A W g) σ H Q := by
  obtain ⟨F, ρ, S, q⟩ := h
  refine ⟨F, ρ, S, ?_⟩
  unfold callR at q
  cases hf : g ρ with
  | bad => rw [hf] at q; exact q
  | ex c => rw [hf] at q; exact q
  | ok ds =>
    rw [hf] at q
    simp only [Res.bind_ok] at q
    intro vs F1 H1 x1 i1
    by_cases hn : ds.length = n
    · rw [if_pos hn] at q
      refine ⟨F1, ds, by rw [i1.length]; exact hn, x1.le, i1, ?_⟩
      cases ho : fD ds with
      | rt d => rw [ho] at q; exact fun v F2 H2 x2 i2 => q v F2 H2 (x1.trans x2) i2
      | ro xs => rw [ho] at q; exact fun p us F2 H2 x2 h1 h2 h3 h4 h5 => frozen q (x1.trans x2) h1 (Same.free x1.keep h2) h3 h4 h5
      | ex c => rw [ho] at q; exact fun cls dd F2 H2 x2 z => q cls dd F2 H2 (x1.trans x2) z
      | bad => rw [ho] at q; exact q
    · rw [if_neg hn] at q; exact q.elim
theorem call_O {σ : L2.St} {H : Hp} {Q : VK} {n : Nat} (h : tO A W (callO n fD g) σ H Q) : tCallS (spD A.Z n fD) (WE W) (tAs A W g) σ H Q := by
  obtain ⟨F, ρ, S, q⟩ := h
  refine ⟨F, ρ, S, ?_⟩
  unfold callO at q
  cases hf : g ρ with
  | bad => rw [hf] at q; exact q
  | ex c => rw [hf] at q; exact q
  | ok ds =>
    rw [hf] at q
    simp only [Res.bind_ok] at q
    intro vs F1 H1 x1 i1
    by_cases hn : ds.length = n
    · rw [if_pos hn] at q
      refine ⟨F1, ds, by rw [i1.length]; exact hn, x1.le, i1, ?_⟩
      cases ho : fD ds with
      | rt d => rw [ho] at q; exact q.elim
      | ro xs => rw [ho] at q; exact fun p us F2 H2 x2 h1 h2 h3 h4 h5 => q p us F2 H2 (x1.trans x2) h1 (Same.free x1.keep h2) h3 h4 h5
      | ex c => rw [ho] at q; exact fun cls dd F2 H2 x2 z => q cls dd F2 H2 (x1.trans x2) z
      | bad => rw [ho] at q; exact q
    · rw [if_neg hn] at q; exact q.elim
/-- a def of the text as it stands, its promise by data -/
structure DefD (P : Program) (w : World) (K : PySem.W.Frag) (mg : Str → Option Value) (base : Heap) (Z : String → Addr → Prop) (k : Nat) (x : Str) (ps : List Str) (fD : List D → RO) : Prop where
  ex : ∃ f fd, FnOk P w K mg base (L2.CX P w) k f fd ps (spD Z ps.length fD) ∧ mg x = some (.ref f) ∧ PySem.W.keepIn K (.ref f) = true ∧ Binds K fd ps [] ∧ ∃ oc od osl, K.lookup f = some ⟨oc, od, .func fd, osl⟩
theorem d_call {n : Nat} (G : DefD X.prog X.w X.K X.mg X.base A.Z k x ps fD) (tk : Takes X W) (hr : Room k X.A) (ha : DAs X A W (e :: es) g)
    (hg : Gl X x := by rfl) (hdb : (x == ("__debug__" : Str)) = false := by decide) (he : starEach (e :: es) X.env = (false, eval e X.env) :: starEach es X.env := by rfl) (hpl : (backTo pos (starEach es X.env)).any (·.1) = false := by rfl) (hn : ps.length = n := by rfl) :
    DE X A W (.Call (.Name x p) (e :: es) [] pos) (callR n fD g) := by
  subst hn
  obtain ⟨f, fd, G, hm, hk, hb, _⟩ := G.ex
  exact peI (pe_callS G hr hg hm hk hb (fun σ => passAt tk σ) ha hdb he hpl) fun σ H Q h => call_D h
theorem o_call {n : Nat} (G : DefD X.prog X.w X.K X.mg X.base A.Z k x ps fD) (tk : Takes X W) (hr : Room k X.A) (ha : DAs X A W (e :: es) g)
    (hg : Gl X x := by rfl) (hdb : (x == ("__debug__" : Str)) = false := by decide) (he : starEach (e :: es) X.env = (false, eval e X.env) :: starEach es X.env := by rfl) (hpl : (backTo pos (starEach es X.env)).any (·.1) = false := by rfl) (hn : ps.length = n := by rfl) :
    OE X A W (.Call (.Name x p) (e :: es) [] pos) (callO n fD g) := by
  subst hn
  obtain ⟨f, fd, G, hm, hk, hb, _⟩ := G.ex
  exact peI (pe_callS G hr hg hm hk hb (fun σ => passAt tk σ) ha hdb he hpl) fun σ H Q h => call_O h
end

/-! ### defs -/
def startR (N : Nat) (ds : List D) : Rho := ds.map (fun d => some (.d d)) ++ List.replicate (N - ds.length) none
def runD (N : Nat) (g : Rho → SO) (ds : List D) : RO := match g (startR N ds) with
  | .nx _ => .rt .none
  | .rt d => .rt d
  | .ro xs => .ro xs
  | .ex c => .ex c
  | _ => .bad
section
variable [Wd] {P : Program} {w : World} {K : PySem.W.Frag} {mg : Str → Option Value} {base : Heap} {Z : String → Addr → Prop}
theorem start_sim {F H : Hp} {N : List Str} {vs : List V} {ds : List D} (le : Same F H) (i : IsA F vs ds) (hl : vs.length ≤ N.length) : Sim ⟨F, H, Z, N.length, .non⟩ F H (L2.start N vs) (startR N.length ds) := by
  have own : ∀ {j : Nat} {b : B}, (startR N.length ds)[j]? = some (some b) → ∃ d, b = .d d ∧ ds[j]? = some d := fun {j b} e => by
    unfold startR at e
    by_cases hj : j < ds.length
    · rw [List.getElem?_append_left (by simpa using hj), List.getElem?_map] at e
      obtain ⟨d, h1, h2⟩ := Option.map_eq_some_iff.mp e
      cases h2
      exact ⟨d, rfl, h1⟩
    · rw [List.getElem?_append_right (by simpa using hj), List.getElem?_replicate] at e
      split at e <;> cases e
  refine ⟨.refl le, ?_, ?_, fun j b e => ?_, fun j k b c v _ e1 _ o1 => ?_⟩
  · unfold L2.start startR
    simp [i.length]
  · unfold startR
    rw [List.length_append, List.length_map, List.length_replicate, ← i.length]
    show vs.length + (N.length - vs.length) = N.length
    omega
  · obtain ⟨d, rfl, h⟩ := own e
    obtain ⟨v, hv, iv⟩ := i.get h
    refine ⟨v, ?_, iv⟩
    unfold L2.start
    rw [List.getElem?_append_left (by rw [List.length_map]; exact (List.getElem?_eq_some_iff.mp hv).1), List.getElem?_map, hv]
    rfl
  · obtain ⟨d, rfl, _⟩ := own e1
    cases o1
/-- THE RULE for a def: its body by data -/
theorem fn_D {x qual : Str} {st : Stmt} {f : Addr} {fd : FuncData} {N ps : List Str} {k : Nat} {g : Rho → SO} (hw : Wd.w = w) (F : Fun K x qual st f fd) (S : FnScope N ps (defScope st))
    (hbody : ∀ (cdv : Value) (A' : Around) (outer : List Env) (s : Shared) (H : Hp) (E : XK) (A : Amb), A.Z = Z → A.n = N.length → Wd.w = w → Room k (A'.deeper (envOfC qual (defScope st) s.heap.objs.size f cdv)) →
      Takes (cxOf (L2.CX P w) P w K mg base N qual (defScope st) f cdv A' outer s H E) (fun cls d _ H => E cls d H) →
      DSs (cxOf (L2.CX P w) P w K mg base N qual (defScope st) f cdv A' outer s H E) A (fun cls d _ H => E cls d H) (defBody st) g) :
    FnOk P w K mg base (L2.CX P w) (k + 1) f fd ps (spD Z ps.length (runD N.length g)) := by
  refine F.okX S (fun vs H Q E h => ?_) (fun cdv A outer s H vs Q E hr h => ?_)
  · obtain ⟨_, _, hl, _⟩ := h
    exact hl
  · obtain ⟨F0, ds, hl, le, ia, q⟩ := h
    have hN : ps.length ≤ N.length := by
      have := congrArg List.length S.pre
      rw [List.length_take] at this
      omega
    refine ⟨_, hbody cdv A outer s H E ⟨F0, H, Z, N.length, .non⟩ rfl rfl hw hr (takes_of rfl rfl rfl rfl), F0, startR N.length ds, start_sim le ia (by omega), ?_⟩
    unfold runD at q
    cases hg : g (startR N.length ds) with
    | nx ρ => rw [hg] at q; exact fun σ F' H' S' _ => q .non F' H' S'.ext .non
    | rt d => rw [hg] at q; exact q
    | ro xs => rw [hg] at q; exact q
    | ex c => rw [hg] at q; exact fun σ cls dd F' H' x _ _ z => q cls dd F' H' x z
    | bk ρ => rw [hg] at q; exact q.elim
    | ct ρ => rw [hg] at q; exact q.elim
    | bad => rw [hg] at q; exact q.elim
end

/-! ### raise of an own class without __init__ -/
def raiseS (c : String) : Rho → SO := fun _ => .ex ⟨c, none⟩
section
variable [Wd] {X : Cx} {A : Amb} {W : WX} {C : Addr} {bmB : List Value} {B newId initId : String} {pos : Pos}
/-- code that is never come to -/
def never : Rho → SO := fun _ => .bad
theorem s_never {st : Stmt} : DS X A W st never := psI ps_never fun E σ H ⟨F, ρ, S, h⟩ => h
theorem ss_never {st : List Stmt} : DSs X A W st never := pssI pss_never fun E σ H ⟨F, ρ, S, h⟩ => h
end
end DL

/-! The data layer, part 8: freezing, lending, in, sorted, enumerate. -/
namespace DL
open PySem PySem.Spec PyProof.Rows L2

/-! ### freezing -/
def frzAt (i : Nat) (ρ : Rho) : Rho := match ρ[i]? with
  | some (some (.own xs)) => ρ.set i (some (.d (.list xs)))
  | _ => ρ
theorem Sim.frz0 [Wd] {A : Amb} {F H : Hp} {σ : L2.St} {ρ : Rho} (S : Sim A F H σ ρ) (i : Nat) : ∃ F', Ext F F F' H ∧ Ext F H F' H ∧ Sim A F' H σ (DL.frzAt i ρ) ∨ (∃ xs, ρ[i]? = some (some (.own xs)) ∧ Ext F F F' H ∧ Sim A F' H σ (DL.frzAt i ρ)) := by
  unfold DL.frzAt
  cases hr : ρ[i]? with
  | none => exact ⟨F, .inl ⟨⟨Same.refl _, S.le, S.le, fun p o e e2 => by rw [e] at e2; cases e2⟩, .refl S.le, S⟩⟩
  | some o =>
    cases o with
    | none => exact ⟨F, .inl ⟨⟨Same.refl _, S.le, S.le, fun p o e e2 => by rw [e] at e2; cases e2⟩, .refl S.le, S⟩⟩
    | some b =>
      cases b with
      | d x => exact ⟨F, .inl ⟨⟨Same.refl _, S.le, S.le, fun p o e e2 => by rw [e] at e2; cases e2⟩, .refl S.le, S⟩⟩
      | dct x => exact ⟨F, .inl ⟨⟨Same.refl _, S.le, S.le, fun p o e e2 => by rw [e] at e2; cases e2⟩, .refl S.le, S⟩⟩
      | raw => exact ⟨F, .inl ⟨⟨Same.refl _, S.le, S.le, fun p o e e2 => by rw [e] at e2; cases e2⟩, .refl S.le, S⟩⟩
      | own xs =>
        obtain ⟨F', x, S'⟩ := S.freeze hr
        exact ⟨F', .inr ⟨xs, rfl, x, S'⟩⟩
theorem Sim.frz [Wd] {A : Amb} {F H : Hp} {σ : L2.St} {ρ : Rho} (S : Sim A F H σ ρ) (i : Nat) : ∃ F', Same F F' ∧ Sim A F' H σ (DL.frzAt i ρ) := by
  obtain ⟨F', h⟩ := S.frz0 i
  rcases h with ⟨x, _, S'⟩ | ⟨_, _, x, S'⟩
  · exact ⟨F', x.up, S'⟩
  · exact ⟨F', x.up, S'⟩
section
variable [Wd] {X : Cx} {A : Amb} {W : WX}
/-- the list in slot i is frozen ahead of the statement -/
theorem s_frz (i : Nat) {st : Stmt} {g : Rho → SO} (h : DS X A W st g) : DS X A W st (fun ρ => g (frzAt i ρ)) := psI h fun E σ H ⟨F, ρ, S, q⟩ => by
  obtain ⟨F', x, S'⟩ := S.frz i
  exact ⟨F', _, S', q.mono x⟩
end

/-! ### lending -/
mutual
/-- data without lists -/
def flat : D → Bool
  | .list _ => false
  | .tuple xs => flatA xs
  | .dict _ => false
  | _ => true
def flatA : List D → Bool
  | [] => true
  | x :: xs => flat x && flatA xs
end
/-- the frozen heap without a list -/
def without (F : Hp) (p : Addr) : Hp := fun b => if b = p then none else F b
theorem without_ne {F : Hp} {p b : Addr} (h : b ≠ p) : without F p b = F b := if_neg h
theorem without_self {F : Hp} {p : Addr} : without F p p = none := if_pos rfl
mutual
theorem Is.without [Wd] {F : Hp} {p : Addr} {ws : List V} (hp : F p = some (.lst ws)) : ∀ (d : D) (v : V), Is F v d → flat d = true → Is (without F p) v d
  | .none, _, h, _ => by cases h; exact .non
  | .bool b, _, h, _ => by cases h; exact .bl b
  | .int b, _, h, _ => by cases h; exact .int b
  | .str b, _, h, _ => by cases h; exact .str b
  | .list _, _, _, e => by simp [flat] at e
  | .dict _, _, _, e => by simp [flat] at e
  | .tuple ds, _, h, e => by
    have e' : flatA ds = true := by simpa [flat] using e
    cases h with
    | tup h z t =>
      rename_i a _
      have ha : a ≠ p := fun z => by
        subst z
        rcases h with h | ⟨o, h⟩ <;> (rw [hp] at h; cases h)
      refine .tup ?_ z (IsA.without hp ds _ t e')
      rcases h with h | ⟨o, h⟩
      · exact .inl (by rw [without_ne ha]; exact h)
      · exact .inr ⟨o, by rw [without_ne ha]; exact h⟩
theorem IsA.without [Wd] {F : Hp} {p : Addr} {ws : List V} (hp : F p = some (.lst ws)) : ∀ (ds : List D) (vs : List V), IsA F vs ds → flatA ds = true → IsA (without F p) vs ds
  | [], _, h, _ => by cases h; exact .nil
  | d :: ds, _, h, e => by
    rw [flatA, Bool.and_eq_true] at e
    cases h with
    | cons h t => exact .cons (Is.without hp d _ h e.1) (IsA.without hp ds _ t e.2)
end
theorem Zx.without {Z : String → Addr → Prop} {c : Exc} {cls : Value} {dd : Option Addr} {F : Hp} {p : Addr} {ws : List V} (hp : F p = some (.lst ws)) (h : Zx Z c cls dd F) : Zx Z c cls dd (DL.without F p) := by
  obtain ⟨C, h1, h2, h3⟩ := h
  refine ⟨C, h1, h2, ?_⟩
  cases hc : c.num with
  | none => rw [hc] at h3; exact h3
  | some n =>
    rw [hc] at h3
    obtain ⟨d, e, hd⟩ := h3
    have : d ≠ p := fun z => by rw [z, hp] at hd; cases hd
    exact ⟨d, e, by rw [without_ne this]; exact hd⟩
def lendD (i : Nat) (f : Rho → Res D) : Rho → Res D := fun ρ => match ρ[i]? with
  | some (some (.own _)) => (f (frzAt i ρ)).bind fun d => if flat d = true then .ok d else .bad
  | _ => f ρ
def lendO (i : Nat) (f : Rho → Res (List D)) : Rho → Res (List D) := fun ρ => match ρ[i]? with
  | some (some (.own _)) => (f (frzAt i ρ)).bind fun d => if flatA d = true then .ok d else .bad
  | _ => f ρ
theorem own_or (ρ : Rho) (i : Nat) : (∃ xs, ρ[i]? = some (some (.own xs))) ∨ ∀ xs, ρ[i]? ≠ some (some (.own xs)) := by
  by_cases h : ∃ xs, ρ[i]? = some (some (.own xs))
  · exact .inl h
  · exact .inr fun xs e => h ⟨xs, e⟩
theorem lendD_own {i : Nat} {f : Rho → Res D} {ρ : Rho} {xs : List D} (h : ρ[i]? = some (some (.own xs))) : lendD i f ρ = (f (frzAt i ρ)).bind fun d => if flat d = true then .ok d else .bad := by
  unfold lendD; rw [h]
theorem lendO_own {i : Nat} {f : Rho → Res (List D)} {ρ : Rho} {xs : List D} (h : ρ[i]? = some (some (.own xs))) : lendO i f ρ = (f (frzAt i ρ)).bind fun d => if flatA d = true then .ok d else .bad := by
  unfold lendO; rw [h]
theorem lendD_no {i : Nat} {f : Rho → Res D} {ρ : Rho} (h : ∀ xs, ρ[i]? ≠ some (some (.own xs))) : lendD i f ρ = f ρ := by
  unfold lendD
  split
  · rename_i xs e; exact absurd e (h xs)
  · rfl
theorem lendO_no {i : Nat} {f : Rho → Res (List D)} {ρ : Rho} (h : ∀ xs, ρ[i]? ≠ some (some (.own xs))) : lendO i f ρ = f ρ := by
  unfold lendO
  split
  · rename_i xs e; exact absurd e (h xs)
  · rfl
/-- a list is frozen for a while -/
theorem Sim.lend [Wd] {A : Amb} {F H : Hp} {σ : L2.St} {ρ : Rho} {i : Nat} {xs : List D} (S : Sim A F H σ ρ) (hr : ρ[i]? = some (some (.own xs))) :
    ∃ F1 p ws, F p = none ∧ Same F F1 ∧ F1 p = some (.lst ws) ∧ Sim A F1 H σ (frzAt i ρ) ∧ ∀ F2 H2, Ext F1 H F2 H2 → Ext F H (DL.without F2 p) H2 ∧ F2 p = some (.lst ws) := by
  obtain ⟨v, e1, p, vs, rfl, hf, h0, hp, hz, hA⟩ := S.val i _ hr
  have S' : Sim A (upd F p (.lst vs)) H σ (frzAt i ρ) := by
    have e : DL.frzAt i ρ = ρ.set i (some (.d (.list xs))) := by unfold DL.frzAt; rw [hr]
    rw [e]
    refine ⟨S.ext.freeze hf h0 hp, by simp [S.len], by simp [S.num], fun j b e => ?_, fun j k b c w hjk e1 e2 o1 o2 e3 e4 => ?_⟩
    · by_cases hj : i = j
      · subst hj
        have hi : i < ρ.length := (List.getElem?_eq_some_iff.mp hr).1
        rw [List.getElem?_set_self hi] at e
        cases e
        exact ⟨.ref p, e1, .lst (.inl upd_same) hz (hA.mono (same_upd hf))⟩
      · rw [List.getElem?_set_ne hj] at e
        obtain ⟨w, e2, e3⟩ := S.val j b e
        refine ⟨w, e2, ?_⟩
        cases ho : b.isOwn with
        | false => cases b with
          | d x => exact Is.mono (same_upd hf) e3
          | raw => exact e3
          | _ => cases ho
        | true =>
          obtain ⟨q, ob, e4, gf, g0, gp⟩ := Bd.at ho e3
          subst e4
          have hq : q ≠ p := fun z => by
            subst z
            exact S.sep i j _ _ _ hj hr e rfl ho e1 e2
          exact Bd.move ho e3 (same_upd hf) (by rw [upd_ne hq]; exact gf) rfl
    · have hj : i ≠ j := fun z => by
        subst z
        have hi : i < ρ.length := (List.getElem?_eq_some_iff.mp hr).1
        rw [List.getElem?_set_self hi] at e1; cases e1; cases o1
      have hk : i ≠ k := fun z => by
        subst z
        have hi : i < ρ.length := (List.getElem?_eq_some_iff.mp hr).1
        rw [List.getElem?_set_self hi] at e2; cases e2; cases o2
      rw [List.getElem?_set_ne hj] at e1
      rw [List.getElem?_set_ne hk] at e2
      exact S.sep j k b c w hjk e1 e2 o1 o2 e3 e4
  refine ⟨_, p, vs, hf, same_upd hf, upd_same, S', fun F2 H2 x => ⟨⟨fun b o e => ?_, x.keep, fun b o e => ?_, fun b o e e2 => ?_⟩, x.up _ _ upd_same⟩⟩
  · have hb : b ≠ p := ne_of_none e hf
    rw [without_ne hb]
    exact x.up _ _ (by rw [upd_ne hb]; exact e)
  · by_cases hb : b = p
    · rw [hb, without_self] at e; cases e
    · rw [without_ne hb] at e; exact x.le _ _ e
  · by_cases hb : b = p
    · rw [hb]; exact without_self
    · rw [without_ne hb]; exact x.new _ _ (by rw [upd_ne hb]; exact e) e2
section
variable [Wd] {X : Cx} {A : Amb} {W : WX} {e : Expr}
theorem d_lend (i : Nat) {f : Rho → Res D} (h : DE X A W e f) : DE X A W e (lendD i f) := peI h fun σ H Q ⟨F, ρ, S, q⟩ => by
  rcases own_or ρ i with ⟨xs, hr⟩ | hr
  · rw [lendD_own hr] at q
    obtain ⟨F1, p, ws, hp, x0, h1, S1, back⟩ := S.lend hr
    refine ⟨F1, _, S1, ?_⟩
    cases hf : f (frzAt i ρ) with
    | bad => rw [hf] at q; exact q
    | ex c =>
      rw [hf] at q
      exact fun cls dd F2 H2 x z => q cls dd _ H2 (back F2 H2 x).1 (z.without (back F2 H2 x).2)
    | ok d =>
      rw [hf] at q
      simp only [Res.bind_ok] at q
      intro v F2 H2 x i2
      obtain ⟨b1, b2⟩ := back F2 H2 x
      by_cases hd : flat d = true
      · rw [if_pos hd] at q
        exact q v _ H2 b1 (Is.without b2 _ _ i2 hd)
      · rw [if_neg hd] at q; exact q.elim
  · rw [lendD_no hr] at q; exact ⟨F, ρ, S, q⟩
theorem o_lend (i : Nat) {f : Rho → Res (List D)} (h : OE X A W e f) : OE X A W e (lendO i f) := peI h fun σ H Q ⟨F, ρ, S, q⟩ => by
  rcases own_or ρ i with ⟨xs, hr⟩ | hr
  · rw [lendO_own hr] at q
    obtain ⟨F1, p, ws, hp, x0, h1, S1, back⟩ := S.lend hr
    refine ⟨F1, _, S1, ?_⟩
    cases hf : f (frzAt i ρ) with
    | bad => rw [hf] at q; exact q
    | ex c =>
      rw [hf] at q
      exact fun cls dd F2 H2 x z => q cls dd _ H2 (back F2 H2 x).1 (z.without (back F2 H2 x).2)
    | ok d =>
      rw [hf] at q
      simp only [Res.bind_ok] at q
      intro r vs F2 H2 x h1 h2 h3 h4 h5
      obtain ⟨b1, b2⟩ := back F2 H2 x
      by_cases hd : flatA d = true
      · rw [if_pos hd] at q
        have hrp : r ≠ p := fun z => by rw [z, b2] at h1; cases h1
        exact q r vs _ H2 b1 (by rw [without_ne hrp]; exact h1) h2 h3 h4 (IsA.without b2 _ _ h5 hd)
      · rw [if_neg hd] at q; exact q.elim
  · rw [lendO_no hr] at q; exact ⟨F, ρ, S, q⟩
end

/-! ### in, not in -/
def inD (neg : Bool) : D → D → Option D
  | d, .list xs => if SeqAt.shaped d = true ∧ SeqAt.shaped (.list xs) = true then some (.bool (neg ^^ xs.any fun y => PyData.eqv y d)) else none
  | d, .tuple xs => if SeqAt.shaped d = true ∧ SeqAt.shaped (.tuple xs) = true then some (.bool (neg ^^ xs.any fun y => PyData.eqv y d)) else none
  | _, _ => none
section
variable [Wd] {X : Cx}
theorem o_in (hu : X.A.units + 65 < cLine) : OpR X (compareOp .In) (rD (inD false)) := by
  intro pins s σ H x y v u Q I rx ry h
  obtain ⟨F, a, b, d, le, ia, ib, e, q⟩ := h
  cases b with
  | list xs =>
    simp only [inD] at e
    split at e
    · rename_i hs
      cases e
      obtain ⟨as, r1⟩ := Dp.reads I a x v (ia.dp le (noDct_shaped hs.1)) rx
      obtain ⟨bs, r2⟩ := Dp.reads I _ y u (ib.dp le (noDct_shaped hs.2)) ry
      refine SeqAt.in_list_reads r2 r1 (SeqAt.canLay_of_shaped hs.2) (SeqAt.canLay_of_shaped hs.1) (room_in_shaped hs.1 hu) ⟨.bl _, H, I, rfl, ?_⟩
      have := q _ F H (.refl le) (.bl _)
      rw [Bool.false_xor] at this
      exact this
    · cases e
  | tuple xs =>
    simp only [inD] at e
    split at e
    · rename_i hs
      cases e
      obtain ⟨as, r1⟩ := Dp.reads I a x v (ia.dp le (noDct_shaped hs.1)) rx
      obtain ⟨bs, r2⟩ := Dp.reads I _ y u (ib.dp le (noDct_shaped hs.2)) ry
      refine SeqAt.in_tuple_reads r2 r1 (SeqAt.canLay_of_shaped hs.2) (SeqAt.canLay_of_shaped hs.1) (room_in_shaped hs.1 hu) ⟨.bl _, H, I, rfl, ?_⟩
      have := q _ F H (.refl le) (.bl _)
      rw [Bool.false_xor] at this
      exact this
    · cases e
  | _ => simp [inD] at e
theorem o_notIn (hu : X.A.units + 65 < cLine) : OpR X (compareOp .NotIn) (rD (inD true)) := by
  intro pins s σ H x y v u Q I rx ry h
  obtain ⟨F, a, b, d, le, ia, ib, e, q⟩ := h
  cases b with
  | list xs =>
    simp only [inD] at e
    split at e
    · rename_i hs
      cases e
      obtain ⟨as, r1⟩ := Dp.reads I a x v (ia.dp le (noDct_shaped hs.1)) rx
      obtain ⟨bs, r2⟩ := Dp.reads I _ y u (ib.dp le (noDct_shaped hs.2)) ry
      refine SeqAt.notIn_list_reads r2 r1 (SeqAt.canLay_of_shaped hs.2) (SeqAt.canLay_of_shaped hs.1) (room_in_shaped hs.1 hu) ⟨.bl _, H, I, rfl, ?_⟩
      have := q _ F H (.refl le) (.bl _)
      rw [Bool.true_xor] at this
      exact this
    · cases e
  | tuple xs =>
    simp only [inD] at e
    split at e
    · rename_i hs
      cases e
      obtain ⟨as, r1⟩ := Dp.reads I a x v (ia.dp le (noDct_shaped hs.1)) rx
      obtain ⟨bs, r2⟩ := Dp.reads I _ y u (ib.dp le (noDct_shaped hs.2)) ry
      refine SeqAt.notIn_tuple_reads r2 r1 (SeqAt.canLay_of_shaped hs.2) (SeqAt.canLay_of_shaped hs.1) (room_in_shaped hs.1 hu) ⟨.bl _, H, I, rfl, ?_⟩
      have := q _ F H (.refl le) (.bl _)
      rw [Bool.true_xor] at this
      exact this
    · cases e
  | _ => simp [inD] at e
end

/-! ### -e -/
def negR (f : Rho → Res D) : Rho → Res D := fun ρ => (f ρ).bind fun d => match d with
  | .int i => .ok (.int (-i))
  | _ => .bad
section
variable [Wd] {X : Cx} {A : Amb} {W : WX} {e : Expr} {f : Rho → Res D} {pos : Pos}
theorem d_neg (h : BE X A W e f) : DE X A W (.UnaryOp .USub e pos) (negR f) := peI (pe_un un_neg h) fun σ H Q ⟨F, ρ, S, q⟩ => ⟨F, ρ, S, by
  unfold negR at q
  cases hf : f ρ with
  | bad => rw [hf] at q; exact q
  | ex c => rw [hf] at q; exact q
  | ok d =>
    rw [hf] at q
    intro v F1 H1 x1 i1
    cases d with
    | int i => cases i1.int; exact ⟨i, rfl, q _ F1 H1 x1 (.int _)⟩
    | _ => exact q.elim⟩
end

/-! ### sorted -/
def dle (a b : D) : Bool := !PySem.W.dataLt b a
def allLike (ds : List D) : Bool := ds.all fun d => ds.all fun d' => PySem.W.alike d d'
def sortsD (ds : List D) : Bool := (ds.all fun d => match d with | .tuple (_ :: _) => true | _ => false) || (ds.all fun d => match d with | .none => false | .tuple _ => false | _ => true)
def sortedD : List D → Option (List D)
  | [.list ds] => if (allLike ds && sortsD ds && ds.all fun d => decide (d.depth ≤ 60)) = true then some (ds.mergeSort dle) else none
  | _ => none
theorem allLike_ok {ds : List D} (h : allLike ds = true) : PySem.W.AllAlike ds := fun d hd d' hd' => List.all_eq_true.mp (List.all_eq_true.mp h d hd) d' hd'
mutual
theorem noDct_alike : ∀ d : D, PySem.W.alike d d = true → noDct d = true
  | .none, _ => rfl
  | .bool _, _ => rfl
  | .int _, _ => rfl
  | .str _, _ => rfl
  | .list xs, h => by simpa [noDct] using noDctA_alike xs (by simpa [PySem.W.alike] using h)
  | .tuple xs, h => by simpa [noDct] using noDctA_alike xs (by simpa [PySem.W.alike] using h)
  | .dict _, h => by simp [PySem.W.alike] at h
theorem noDctA_alike : ∀ ds : List D, PySem.W.alikeAll ds ds = true → noDctA ds = true
  | [], _ => rfl
  | x :: xs, h => by
    simp only [PySem.W.alikeAll, Bool.and_eq_true] at h
    simp [noDctA, noDct_alike x h.1, noDctA_alike xs h.2]
end
theorem noDctA_of {ds : List D} (h : ∀ d ∈ ds, noDct d = true) : noDctA ds = true := by
  induction ds with
  | nil => rfl
  | cons x xs ih => simp [noDctA, h x (by simp), ih fun d hd => h d (by simp [hd])]
theorem allLike_noDct {ds : List D} (h : allLike ds = true) : noDctA ds = true := noDctA_of fun d hd => noDct_alike d (List.all_eq_true.mp (List.all_eq_true.mp h d hd) d hd)
theorem sortsD_ok {ds : List D} (h : sortsD ds = true) : PySem.W.Sortable ds := by
  rcases (Bool.or_eq_true _ _).mp h with h | h
  · refine .inl fun d hd => ?_
    have := List.all_eq_true.mp h d hd
    cases d with
    | tuple xs =>
      cases xs with
      | nil => cases this
      | cons x r => exact ⟨x, r, rfl⟩
    | _ => cases this
  · refine .inr fun d hd => ?_
    have := List.all_eq_true.mp h d hd
    cases d with
    | none => cases this
    | tuple xs => cases this
    | _ => exact ⟨fun z => (nomatch z), fun xs z => (nomatch z)⟩
section
variable [Wd] {X : Cx}
theorem map_snd_zip : ∀ (vs : List V) (ds : List D), vs.length = ds.length → (vs.zip ds).map Prod.snd = ds
  | [], [], _ => rfl
  | v :: vs, d :: ds, h => by
    rw [List.zip_cons_cons, List.map_cons, map_snd_zip vs ds (by simpa using h)]
  | [], _ :: _, h => by cases h
  | _ :: _, [], h => by cases h
theorem each_zip {F : Hp} {R : V → Value → Prop} : ∀ {vs : List V} {us : List Value} {ds : List D}, Vals vs us → vs.length = ds.length → PySem.W.EachIs (fun u (p : V × D) => RelV p.1 u) us (vs.zip ds)
  | _, _, [], .nil, _ => .nil
  | _, _, d :: ds, .cons r t, h => .cons r (each_zip (F := F) (R := R) t (by simpa using h))
  | _, _, _ :: _, .nil, h => by cases h
  | _, _, [], .cons _ _, h => by cases h
theorem each_reads {h : Heap} : ∀ {us : List Value} {vs : List V} {ds : List D} {as : List Addr}, ReadsAll h us ds as → vs.length = ds.length → PySem.W.EachIs (fun u (p : V × D) => ∃ as, Reads h u p.2 as) us (vs.zip ds)
  | _, [], [], _, r, _ => by cases r; exact .nil
  | _, v :: vs, d :: ds, _, r, e => by
    cases r with
    | cons h1 h2 => exact .cons ⟨_, h1⟩ (each_reads h2 (by simpa using e))
  | _, [], _ :: _, _, _, e => by cases e
  | _, _ :: _, [], _, _, e => by cases e
theorem vals_each : ∀ {us : List Value} {ps : List (V × D)}, PySem.W.EachIs (fun u (p : V × D) => RelV p.1 u) us ps → Vals (ps.map Prod.fst) us
  | _, _, .nil => .nil
  | _, _, .cons h t => .cons h (vals_each t)
theorem IsA.pairs {F : Hp} : ∀ {ps : List (V × D)}, (∀ p ∈ ps, Is F p.1 p.2) → IsA F (ps.map Prod.fst) (ps.map Prod.snd)
  | [], _ => .nil
  | p :: ps, h => .cons (h p List.mem_cons_self) (IsA.pairs fun q hq => h q (List.mem_cons_of_mem _ hq))
theorem IsA.zip {F : Hp} : ∀ {vs : List V} {ds : List D}, IsA F vs ds → ∀ p ∈ vs.zip ds, Is F p.1 p.2
  | _, _, .nil, _, h => by cases h
  | _, _, .cons h t, p, hp => by
    rw [List.zip_cons_cons] at hp
    rcases List.mem_cons.mp hp with rfl | hp
    · exact h
    · exact IsA.zip t p hp
theorem c_sorted (hu : X.A.units + 64 < cLine) : CallR X (.builtin "sorted") (cO sortedD) := by
  intro pins s σ H xs us Q I r h
  obtain ⟨F, as, ds, le, ia, e, q⟩ := h
  unfold sortedD at e
  split at e
  · rename_i ds0
    split at e
    · rename_i hc
      cases e
      rw [Bool.and_eq_true, Bool.and_eq_true] at hc
      obtain ⟨⟨hal, hk⟩, hd⟩ := hc
      obtain ⟨v, rfl, i⟩ := ia.one
      obtain ⟨p, vs, rfl, hp, z, t⟩ := i.list le
      obtain ⟨its, rv, hl, hz⟩ := I.list (.inl hp)
      rw [Vals.ref1 r]
      obtain ⟨rs, hrs⟩ := Dp.readsAll I ds0 vs its ((t.mono le).dp (allLike_noDct hal)) rv
      have hlen := t.length
      have es := map_snd_zip vs ds0 hlen
      refine PySem.W.sorted_data (enc := Prod.snd) hl.isList (each_zip (F := F) (R := fun _ _ => True) rv hlen) (each_reads hrs hlen) (by rw [es]; exact allLike_ok hal) (by rw [es]; exact sortsD_ok hk) (by rw [List.length_zip]; omega) (fun b hb => ?_) fun out ho eo => ?_
      · have hb' : b.2 ∈ ds0 := (List.of_mem_zip (a := b.1) (b := b.2) hb).2
        have := of_decide_eq_true (List.all_eq_true.mp hd _ hb')
        omega
      · obtain ⟨c, hc⟩ := PyProof.Rows.sortedAll_at s.heap its out.toArray
        have rv' := vals_each eo
        have e2 : ((vs.zip ds0).mergeSort (PySem.W.dataLe false Prod.snd)).map Prod.snd = ds0.mergeSort dle := by
          exact (PySem.W.sort_maps (r := PySem.W.dataLe false Prod.snd) (s := dle) Prod.snd (fun a _ b _ => rfl)).trans (by rw [es])
        have hl2 : (((vs.zip ds0).mergeSort (PySem.W.dataLe false Prod.snd)).map Prod.fst).length ≤ sizeLine := by
          rw [List.length_map, List.length_mergeSort, List.length_zip]; omega
        have hn : H (s.heap.objs.size + 1) = none := I.hok.fresh (Nat.le_succ _)
        refine ⟨.ref _, upd H (s.heap.objs.size + 1) (.lst (((vs.zip ds0).mergeSort (PySem.W.dataLe false Prod.snd)).map Prod.fst)), I.laid (t' := s.toks) (fun _ _ => PyProof.Rows.sortedAll_old) (Nat.le_succ _) ⟨hl2, out, c, rv', hc⟩, rfl, ?_⟩
        refine q _ _ F _ (.fresh le hn) (none_of_le le hn) hn upd_same hl2 ?_
        rw [← e2]
        exact IsA.pairs fun p hp => IsA.zip t p (List.mem_mergeSort.mp hp)
    · cases e
  · cases e
end
end DL

/-! The data layer, part 9: what a def's text is; recursion; the return of a list of one's own. -/
namespace DL
open PySem PySem.Spec PyProof.Rows L2

/-- a def stands as its text says -/
def Std (K : PySem.W.Frag) (mg : Str → Option Value) (x : Str) (st : Stmt) (ps : List Str) : Prop := ∃ f fd, Fun K x x st f fd ∧ mg x = some (.ref f) ∧ Binds K fd ps []
theorem r65 {k : Nat} {A : Around} (hr : Room k A) : A.units + 65 < cLine := by have := hr.un; omega
theorem r64 {k : Nat} {A : Around} (hr : Room k A) : A.units + 64 < cLine := by have := hr.un; omega
section
variable [Wd] {P : Program} {w : World} {K : PySem.W.Frag} {mg : Str → Option Value} {base : Heap} {Z : String → Addr → Prop}
/-- the body of the def, as it is to be shown -/
def Body (P : Program) (w : World) (K : PySem.W.Frag) (mg : Str → Option Value) (base : Heap) (Z : String → Addr → Prop) (k : Nat) (x : Str) (st : Stmt) (N : List Str) (g : Rho → SO) : Prop :=
  ∀ (f : Addr) (cdv : Value) (A' : Around) (outer : List Env) (s : Shared) (H : Hp) (E : XK) (A : Amb), A.Z = Z → A.n = N.length → Wd.w = w → Room k (A'.deeper (envOfC x (defScope st) s.heap.objs.size f cdv)) →
      Takes (cxOf (L2.CX P w) P w K mg base N x (defScope st) f cdv A' outer s H E) (fun cls d _ H => E cls d H) →
      DSs (cxOf (L2.CX P w) P w K mg base N x (defScope st) f cdv A' outer s H E) A (fun cls d _ H => E cls d H) (defBody st) g
theorem Fun.at {x : Str} {st : Stmt} {f : Addr} {fd : FuncData} (F : Fun K x x st f fd) : ∃ oc od osl, K.lookup f = some ⟨oc, od, .func fd, osl⟩ := by
  obtain ⟨oc, od, kV, doc, pm, an, cdv, ct, osl, e, lk, hcd⟩ := F.ex
  exact ⟨oc, od, osl, lk⟩
theorem def_D {x : Str} {st : Stmt} {N ps : List Str} {k : Nat} {g : Rho → SO} (hw0 : Wd.w = w) (F : Std K mg x st ps) (S : FnScope N ps (defScope st)) (hb : Body P w K mg base Z k x st N g) :
    DefD P w K mg base Z (k + 1) x ps (runD N.length g) := by
  obtain ⟨f, fd, F, hm, hbd⟩ := F
  exact ⟨f, fd, fn_D hw0 F S (fun cdv A' outer s H E A hZ hn hw hr tk => hb f cdv A' outer s H E A hZ hn hw hr tk), hm, F.kp, hbd, Fun.at F⟩
theorem DefD.mono {x : Str} {ps : List Str} {j k : Nat} {fD : List D → RO} (h : DefD P w K mg base Z j x ps fD) (e : j ≤ k) : DefD P w K mg base Z k x ps fD := by
  obtain ⟨f, fd, F, r⟩ := h.ex
  exact ⟨f, fd, F.mono e, r⟩
/-- a def that calls itself, n deep -/
def recD (N : Nat) (g : (List D → RO) → Rho → SO) : Nat → List D → RO
  | 0 => fun _ => .bad
  | n + 1 => runD N (g (recD N g n))
theorem rec_D {x : Str} {st : Stmt} {N ps : List Str} {k : Nat} {g : (List D → RO) → Rho → SO} (hw0 : Wd.w = w) (F : Std K mg x st ps) (S : FnScope N ps (defScope st))
    (hb : ∀ (n : Nat) (fD : List D → RO), DefD P w K mg base Z (k + n) x ps fD → Body P w K mg base Z (k + n) x st N (g fD)) : ∀ n, DefD P w K mg base Z (k + n) x ps (recD N.length g n)
  | 0 => by
    obtain ⟨f, fd, F, hm, hbd⟩ := F
    refine ⟨f, fd, ⟨fun vs H Q E h => ?_, fun A outer s H args us vs Q E _ _ _ _ h => ?_⟩, hm, F.kp, hbd, Fun.at F⟩
    · obtain ⟨_, _, hl, _⟩ := h; exact hl
    · obtain ⟨_, _, _, _, _, q⟩ := h; exact q.elim
  | n + 1 => def_D hw0 F S (hb n _ (rec_D hw0 F S hb n))
end

/-! ### return of a list of one's own -/
def retV (i : Nat) : Rho → SO := fun ρ => match ρ[i]? with
  | some (some (.own xs)) => .ro xs
  | some (some (.d x)) => .rt x
  | _ => .bad
section
variable [Wd] {X : Cx} {A : Amb} {W : WX} {pos : Pos}
theorem s_retV (i : Nat) {x : Str} {pos' : Pos} (hN : X.N[i]? = some x := by rfl) (hv : Vis X.env.scope x := by first | exact Or.inl rfl | exact Or.inr (Or.inl rfl) | exact Or.inr (Or.inr rfl)) (hd : (x == ("__debug__" : Str)) = false := by decide)
    (hcd : (x == ("__classdict__" : Str)) = false := by decide) : DS X A W (.Return (some (.Name x pos')) pos) (retV i) := psI (ps_ret (pe_var hN hv hd hcd)) fun E σ H ⟨F, ρ, S, q⟩ => by
  unfold retV at q
  cases hr : ρ[i]? with
  | none => rw [hr] at q; exact q.elim
  | some o =>
    rw [hr] at q
    cases o with
    | none => exact q.elim
    | some b =>
      obtain ⟨v, e1, e2⟩ := S.val i _ hr
      cases b with
      | d x => exact ⟨v, e1, q v F H S.ext e2⟩
      | dct x => exact q.elim
      | raw => exact q.elim
      | own xs =>
        obtain ⟨p, vs, rfl, hF, h0, hp, hz, hA⟩ := e2
        exact ⟨_, e1, q p vs F H S.ext hF h0 hp hz hA⟩
end
end DL

/-! The data layer, part 10: dicts of one's own whose keys are tuples: made, written, read, sorted. -/
namespace DL
open PySem PySem.Spec PyProof.Rows L2

/-! ### a dict by data -/
def hasK (kvs : List (D × D)) (k : D) : Bool := kvs.any fun e => decide (keyOf e.1 = keyOf k)
def getK (kvs : List (D × D)) (k : D) : Option D := (kvs.find? fun e => decide (keyOf e.1 = keyOf k)).map (·.2)
def putK (kvs : List (D × D)) (k v : D) : List (D × D) := if hasK kvs k = true then kvs.map fun e => if keyOf e.1 = keyOf k then (e.1, v) else e else kvs ++ [(k, v)]
/-- a key that is served: a tuple, not too deep -/
def okKey : D → Bool
  | .tuple xs => match keysOf xs with
    | some ks => decide ((NestedKey.tup ks).depth ≤ 8)
    | none => false
  | _ => false
theorem okKey_of {d : D} (h : okKey d = true) : ∃ xs ks, d = .tuple xs ∧ keyOf d = some (.tup ks) ∧ (NestedKey.tup ks).depth ≤ 8 := by
  cases d with
  | tuple xs =>
    simp only [okKey] at h
    cases hk : keysOf xs with
    | none => rw [hk] at h; cases h
    | some ks => rw [hk] at h; exact ⟨xs, ks, rfl, by simp [keyOf, hk], of_decide_eq_true h⟩
  | _ => cases h
def storedE (ys : List Ent) (k : NestedKey) (a : Addr) (v : V) : List Ent := if (ys.any fun y => decide (y.1 = k)) = true then ys.map fun y => if y.1 = k then (y.1, y.2.1, v) else y else ys ++ [(k, a, v)]
theorem any_EntV {ys : List Ent} {xs : List (NestedKey × Addr × Value)} {k : NestedKey} (h : EntV ys xs) : (ys.any fun y => decide (y.1 = k)) = (atKey xs k).isSome := by
  induction h with
  | nil => rfl
  | cons h t ih =>
    rename_i y x ys xs
    rw [List.any_cons]
    by_cases e : y.1 = k
    · have e' : x.1 = k := h.1.symm.trans e
      simp [atKey, e, e', List.find?_cons]
    · have e' : ¬ x.1 = k := fun z => e (h.1.trans z)
      have : atKey (x :: xs) k = atKey xs k := by simp [atKey, List.find?_cons, e']
      rw [this, ← ih]
      simp [e]
theorem EntV.map {ys : List Ent} {xs : List (NestedKey × Addr × Value)} {k : NestedKey} {v : V} {u : Value} (r : RelV v u) (h : EntV ys xs) : EntV (ys.map fun y => if y.1 = k then (y.1, y.2.1, v) else y) (xs.map (putAt k u)) := by
  induction h with
  | nil => exact .nil
  | cons h t ih =>
    rename_i y x ys xs
    refine .cons ?_ ih
    unfold putAt
    dsimp only
    by_cases e : y.1 = k
    · have e' : x.1 = k := h.1.symm.trans e
      rw [if_pos e, if_pos e']
      exact ⟨h.1, h.2.1, r⟩
    · have e' : ¬ x.1 = k := fun z => e (h.1.trans z)
      rw [if_neg e, if_neg e']
      exact h
theorem paired_app {α β : Type} {R : α → β → Prop} : ∀ {l : List α} {m : List β} {a : α} {b : β}, Paired R l m → R a b → Paired R (l ++ [a]) (m ++ [b])
  | _, _, _, _, .nil, r => .cons r .nil
  | _, _, _, _, .cons h t, r => .cons h (paired_app t r)
theorem EntV.stored {ys : List Ent} {xs : List (NestedKey × Addr × Value)} {k : NestedKey} {a : Addr} {v : V} {u : Value} (r : RelV v u) (h : EntV ys xs) : EntV (storedE ys k a v) (storedH xs k a u) := by
  unfold storedE storedH
  rw [any_EntV h]
  cases (atKey xs k).isSome with
  | true => exact EntV.map r h
  | false => exact paired_app h ⟨rfl, rfl, r⟩
theorem EntV.keys {ys : List Ent} {xs : List (NestedKey × Addr × Value)} (h : EntV ys xs) : ys.map (·.1) = xs.map (·.1) := by
  induction h with
  | nil => rfl
  | cons h t ih => rw [List.map_cons, List.map_cons, ih, h.1]
theorem any_EntsIs [Wd] {F : Hp} {ys : List Ent} {kvs : List (D × D)} {k : NestedKey} {d : D} (hk : keyOf d = some k) (h : EntsIs F ys kvs) : (ys.any fun y => decide (y.1 = k)) = hasK kvs d := by
  unfold hasK
  induction h with
  | nil => rfl
  | cons h t ih =>
    rename_i y e ys kvs
    rw [List.any_cons, List.any_cons, ih]
    have : decide (y.1 = k) = decide (keyOf e.1 = keyOf d) := by
      rw [h.1, hk]
      simp
    rw [this]
theorem EntsIs.map [Wd] {F : Hp} {ys : List Ent} {kvs : List (D × D)} {k : NestedKey} {d x : D} {v : V} (hk : keyOf d = some k) (r : Is F v x) (h : EntsIs F ys kvs) :
    EntsIs F (ys.map fun y => if y.1 = k then (y.1, y.2.1, v) else y) (kvs.map fun e => if keyOf e.1 = keyOf d then (e.1, x) else e) := by
  induction h with
  | nil => exact .nil
  | cons h t ih =>
    rename_i y e ys kvs
    refine .cons ?_ ih
    dsimp only
    by_cases c : y.1 = k
    · have c' : keyOf e.1 = keyOf d := by rw [h.1, hk, c]
      rw [if_pos c, if_pos c']
      exact ⟨h.1, h.2.1, h.2.2.1, r⟩
    · have c' : ¬ keyOf e.1 = keyOf d := fun z => c (by rw [h.1, hk] at z; exact Option.some.inj z)
      rw [if_neg c, if_neg c']
      exact h
theorem EntsIs.stored [Wd] {F : Hp} {ys : List Ent} {kvs : List (D × D)} {k : NestedKey} {d x : D} {v : V} {a : Addr} (hk : keyOf d = some k) (hd : k.depth ≤ 8) (ha : Is F (.ref a) d) (r : Is F v x) (h : EntsIs F ys kvs) : EntsIs F (storedE ys k a v) (putK kvs d x) := by
  unfold storedE putK
  rw [any_EntsIs hk h]
  cases hasK kvs d with
  | true => exact EntsIs.map hk r h
  | false => exact paired_app h ⟨hk, hd, ha, r⟩
theorem storedE_len (ys : List Ent) (k : NestedKey) (a : Addr) (v : V) : (storedE ys k a v).length ≤ ys.length + 1 := by
  unfold storedE
  split
  · rw [List.length_map]; omega
  · rw [List.length_append]; simp

/-! ### in the heap -/
section
variable [Wd] {X : Cx} {pins : List (Addr × Obj)} {σ : L2.St} {H : Hp} {s : Shared}
mutual
theorem nested_of (I : L2.Inv X pins σ H s) : ∀ (d : D) (v : V) (u : Value) (k : NestedKey), Is H v d → RelV v u → keyOf d = some k → NestedIs s.heap k u
  | .none, _, _, _, h, r, e => by cases h; cases r; simp [keyOf] at e; subst e; exact .none
  | .bool b, _, _, _, h, r, e => by cases h; cases r; simp only [keyOf, Option.some.injEq] at e; subst e; exact .bool rfl
  | .int i, _, _, _, h, r, e => by cases h; obtain ⟨t, rfl⟩ := r; simp only [keyOf, Option.some.injEq] at e; subst e; exact .int i t
  | .str x, _, _, _, h, r, e => by cases h; obtain ⟨t, rfl⟩ := r; simp only [keyOf, Option.some.injEq] at e; subst e; exact .text x t
  | .list _, _, _, _, _, _, e => by simp [keyOf] at e
  | .dict _, _, _, _, _, _, e => by simp [keyOf] at e
  | .tuple ds, _, _, _, h, r, e => by
    cases h with
    | tup hp z t =>
      cases r
      obtain ⟨its, rv, ⟨o, ho, hc, n, hd⟩, _⟩ := I.tuple (.inl hp)
      rw [keyOf] at e
      obtain ⟨ks, hk, rfl⟩ := Option.map_eq_some_iff.mp e
      exact .tup ho hc hd (nestedAll_of I ds _ its ks t rv hk)
theorem nestedAll_of (I : L2.Inv X pins σ H s) : ∀ (ds : List D) (vs : List V) (us : List Value) (ks : List NestedKey), IsA H vs ds → Vals vs us → keysOf ds = some ks → NestedAll s.heap ks us
  | [], _, _, _, h, r, e => by cases h; cases r; simp [keysOf] at e; subst e; exact .nil
  | d :: ds, _, _, _, h, r, e => by
    cases h with
    | cons h t =>
      cases r with
      | cons r rt =>
        rw [keysOf] at e
        split at e
        · rename_i k ks h1 h2
          cases e
          exact .cons (nested_of I d _ _ k h r h1) (nestedAll_of I ds _ _ ks t rt h2)
        · cases e
end
theorem dctP_stay {w : World} {a : Addr} {ys : List Ent} {h h' : Heap} (x : dctP w a ys h) (k : ∀ o, h.get? a = some o → h'.get? a = some o) : dctP w a ys h' := by
  obtain ⟨lo, xs, e, ⟨o, es, ep, ho, r⟩, n⟩ := x
  exact ⟨lo, xs, e, ⟨o, es, ep, k _ ho, r⟩, n⟩
theorem dct_ok {P : Program} {w w' : World} {H' : Hp} {a : Addr} {ys : List Ent} {h : Heap} {o : Obj} (x : dctP w a ys h) (e : h.get? a = some o) : ObjOk P w' H' h a (dctO w a ys o) :=
  ⟨⟨x, e⟩, ⟨o, e⟩, fun h1 h2 q k => ⟨dctP_stay q.1 k, k _ q.2⟩⟩
theorem Inv.dct {a : Addr} {ys : List Ent} {w : World} {o : Obj} (I : L2.Inv X pins σ H s) (h : H a = some (dctO w a ys o)) : dctP w a ys s.heap ∧ s.heap.get? a = some o := (I.hok a _ h).1
theorem EntsIs.is [Wd] (I : L2.Inv X pins σ H s) {ys : List Ent} {kvs : List (D × D)} {xs : List (NestedKey × Addr × Value)} (h : EntsIs H ys kvs) (e : EntV ys xs) : ∀ x ∈ xs, (nestedKind X.prog X.w).is s.heap x.1 x.2.1 := by
  induction h generalizing xs with
  | nil => cases e; intro x hx; cases hx
  | cons h t ih =>
    cases e with
    | cons r rt =>
      intro x hx
      rcases List.mem_cons.mp hx with rfl | hx
      · refine ⟨?_, by rw [← r.1]; exact h.2.1⟩
        rw [← r.1, ← r.2.1]
        exact nested_of I _ _ _ _ h.2.2.1 rfl h.1
      · exact ih rt x hx
theorem Inv.dctH [Wd] {a : Addr} {ys : List Ent} {kvs : List (D × D)} {o : Obj} (I : L2.Inv X pins σ H s) (h : H a = some (dctO X.w a ys o)) (e : EntsIs H ys kvs) : (a == sysModules) = false ∧ ∃ xs, EntV ys xs ∧ s.heap.DictOfH (nestedKind X.prog X.w) a xs := by
  obtain ⟨lo, xs, ev, ⟨o, es, ep, ho, hx, hd, he⟩, n⟩ := (Inv.dct I h).1
  exact ⟨lo, xs, ev, o, es, ep, ho, hx, hd, he, EntsIs.is I e ev, by rw [← ev.keys]; exact n⟩
theorem dctP_of {a : Addr} {ys : List Ent} {xs : List (NestedKey × Addr × Value)} {h : Heap} (lo : (a == sysModules) = false) (e : EntV ys xs) (d : h.DictOfH (nestedKind X.prog X.w) a xs) : dctP X.w a ys h := by
  obtain ⟨o, es, ep, ho, hx, hd, he, _, n⟩ := d
  exact ⟨lo, xs, e, ⟨o, es, ep, ho, hx, hd, he⟩, by rw [e.keys]; exact n⟩
/-- d[k] = v -/
theorem dct_set [Wd] {a : Addr} {ys : List Ent} {kvs : List (D × D)} {v y : V} {u iv : Value} {d : D} {o0 : Obj} {Q : Unit → Shared → Prop} (hu : X.A.units + 65 < cLine) (I : L2.Inv X pins σ H s) (h : H a = some (dctO X.w a ys o0)) (e : EntsIs H ys kvs) (hz : ys.length ≤ sizeLine) (hk : okKey d = true) (iy : Is H y d) (ry : RelV y iv) (rv : RelV v u)
    (hq : ∀ k b o s', y = .ref b → keyOf d = some k → k.depth ≤ 8 → (storedE ys k b v).length ≤ ys.length + 1 → L2.Inv X pins σ (upd H a (dctO X.w a (storedE ys k b v) o)) s' → Q () s') : wpAny (model X.prog X.w) X.A (setItem (.ref a) iv u) Q X.xe s := by
  obtain ⟨xs, ks, ed, ek, hd⟩ := okKey_of hk
  subst ed
  cases iy with
  | tup hp z t =>
    rename_i b vs
    cases ry
    obtain ⟨lo, xs', ev, dd⟩ := Inv.dctH I h e
    have hkey : (nestedKind X.prog X.w).is s.heap (.tup ks) b := ⟨nested_of I _ _ _ _ (.tup hp z t) rfl ek, hd⟩
    have hz' : xs'.length ≤ sizeLine := by
      have := Paired.length ev
      omega
    refine wpAny_setItem_heap (show X.A.units + 1 + 8 < cLine by omega) hkey dd (fun h' hm' hs => ?_) hz'
    have new := dctP_of (X := X) lo (EntV.stored rv ev) hm'
    obtain ⟨o, ho⟩ : ∃ o, h'.get? a = some o := by
      obtain ⟨_, _, _, ⟨o, _, _, ho, _⟩, _⟩ := new
      exact ⟨o, ho⟩
    exact hq _ b o _ rfl ek hd (storedE_len _ _ _ _) (I.write (x := a) (e := a) (by rw [h]; exact True.intro) (.inl rfl) (fun c q hb z => (hs.2 c hb).trans z) ⟨o, ho⟩ (dct_ok new ho))
end

/-! ### statements and expressions on dicts of one's own -/
def dnewS (i : Nat) : Rho → SO := fun ρ => .nx (ρ.set i (some (.dct [])))
def dctR {α : Type} (i : Nat) (k : List (D × D) → Rho → Res α) : Rho → Res α := fun ρ => match ρ[i]? with
  | some (some (.dct kvs)) => k kvs ρ
  | _ => .bad
theorem dctR_of {α : Type} {ρ : Rho} {i : Nat} {k : List (D × D) → Rho → Res α} (h : dctR i k ρ ≠ .bad) : ∃ kvs, ρ[i]? = some (some (.dct kvs)) ∧ dctR i k ρ = k kvs ρ := by
  unfold dctR at h ⊢
  cases hr : ρ[i]? with
  | none => rw [hr] at h; exact absurd rfl h
  | some o =>
    rw [hr] at h
    cases o with
    | none => exact absurd rfl h
    | some b =>
      cases b with
      | d x => exact absurd rfl h
      | own x => exact absurd rfl h
      | raw => exact absurd rfl h
      | dct xs => exact ⟨xs, rfl, rfl⟩
/-- x[k] = v, x in slot i: the value first, then the key -/
def dputS (i : Nat) (fk fv : Rho → Res D) : Rho → SO := thenS fv fun ρ v => match ρ[i]? with
  | some (some (.dct kvs)) => thenS fk (fun ρ k => if (okKey k && decide (kvs.length < sizeLine)) = true then .nx (ρ.set i (some (.dct (putK kvs k v)))) else .bad) ρ
  | _ => .bad
section
variable [Wd] {X : Cx} {A : Amb} {W : WX} {pos : Pos}
theorem s_dnew (i : Nat) {x : Str} {pos' dpos : Pos} (hw : Wd.w = X.w) (hN : X.N.Nodup) (hi : X.N[i]? = some x := by rfl) (hx : Loc X.env.scope x := by first | exact Or.inl rfl | exact Or.inr rfl) (hs : swapsWith (.Dict [] [] dpos) (some (.Name x pos')) pos.line X.env = pure false := by rfl)
    (hf : X.fn x = true ∨ X.env.scope.names.lookup x = some .local := by first | exact .inl rfl | exact .inr rfl | assumption) : DS X A W (.Assign [.Name x pos'] (.Dict [] [] dpos) pos) (dnewS i) := by
  have pe : PE X (.Dict [] [] dpos) (fun _ H Q => ∀ p o, H p = none → Q (.ref p) (upd H p (dctO X.w p [] o))) := ⟨fun pins s σ H Q I h =>
    wpAny_Dict_empty ⟨.ref s.heap.objs.size, _, I.laid (a := s.heap.objs.size) (o := dctO X.w s.heap.objs.size [] { cls := .type "dict", data := .dict #[] }) (t' := s.toks) (fun _ _ q => Heap.get?_push_of_some _ q) (Nat.le_refl _)
      (dct_ok ⟨beq_eq_false_iff_ne.mpr (Ne.symm (Nat.ne_of_lt I.big)), [], .nil, ⟨_, #[], 0, Heap.get?_push_size _ rfl, ⟨rfl, rfl, rfl⟩, rfl, rfl⟩, List.nodup_nil⟩ (Heap.get?_push_size _ rfl)), rfl, h _ _ (I.hok.fresh (Nat.le_refl _))⟩⟩
  refine psI (ps_set hN hi hx pe hs hf) fun E σ H ⟨F, ρ, S, q⟩ p o hp => ?_
  have q' : Po A W E F (.nx (ρ.set i (some (.dct [])))) := q
  refine q' _ F _ ((S.grow (.fresh S.le hp)).setW (x := .dct []) ⟨p, [], o, rfl, none_of_le S.le hp, Same.free S.ext.keep hp, ?_, Nat.zero_le _, .nil⟩ fun j b _ e o => S.new hp j b e o) (Same.refl _)
  rw [hw]
  exact upd_same
theorem s_dput (i : Nat) {x : Str} {p1 p2 : Pos} {k v : Expr} {fk fv : Rho → Res D} (hw : Wd.w = X.w) (hu : X.A.units + 65 < cLine) (hk : DE X A W k fk) (hv : DE X A W v fv) (hN : X.N[i]? = some x := by rfl) (hvi : Vis X.env.scope x := by first | exact Or.inl rfl | exact Or.inr (Or.inl rfl) | exact Or.inr (Or.inr rfl))
    (hd : (x == ("__debug__" : Str)) = false := by decide) (hcd : (x == ("__classdict__" : Str)) = false := by decide) (hs : swapsWith v (some (.Subscript (.Name x p1) k p2)) pos.line X.env = pure false := by rfl) :
    DS X A W (.Assign [.Subscript (.Name x p1) k p2] v pos) (dputS i fk fv) := by
  refine ⟨fun pins s σ H E I ⟨F, ρ, S, q⟩ => ?_⟩
  refine wpAny_Assign_Subscript (Q := SP X pins E) (hv.run pins s σ H (fun vv H1 => ∃ F1, Sim A F1 H1 σ ρ ∧ Same F F1 ∧ ∃ d, Is F1 vv d ∧ Po A W E F (match ρ[i]? with
      | some (some (.dct kvs)) => thenS fk (fun ρ k => if (okKey k && decide (kvs.length < sizeLine)) = true then .nx (ρ.set i (some (.dct (putK kvs k d)))) else .bad) ρ
      | _ => .bad)) I ⟨F, ρ, S, ?_⟩ |> fun h => thn h fun r s1 ⟨vv, H1, I1, rv, F1, S1, e1, d, id, q1⟩ => ?_) hs
  · unfold dputS thenS at q
    cases hf : fv ρ with
    | bad => rw [hf] at q; exact q
    | ex c => rw [hf] at q; exact Po.pex (E := E) S q
    | ok d => rw [hf] at q; exact fun w F' H' x i => ⟨F', S.grow x, x.up, d, i, q⟩
  · cases hr : ρ[i]? with
    | none => rw [hr] at q1; exact q1.elim
    | some o =>
      rw [hr] at q1
      cases o with
      | none => exact q1.elim
      | some b =>
        cases b with
        | d x => exact q1.elim
        | own x => exact q1.elim
        | raw => exact q1.elim
        | dct kvs =>
          obtain ⟨w0, f1, p, ys, o1, rfl, hF, h0, hp, hz, hE⟩ := S1.val i _ hr
          have q2 : Po A W E F (thenS fk (fun ρ k => if (okKey k && decide (kvs.length < sizeLine)) = true then .nx (ρ.set i (some (.dct (putK kvs k d)))) else .bad) ρ) := q1
          refine thn ((pe_var (pos := p1) hN hvi hd hcd).run pins s1 σ H1 (fun y H2 => y = .ref p ∧ H2 = H1) I1 ⟨_, f1, rfl, rfl⟩) fun u s2 ⟨y, H2, I2, ry, ey, e2⟩ => ?_
          subst ey e2
          cases ry
          refine thn (hk.run pins s2 σ H2 (fun ky H3 => ∃ F3, Sim A F3 H3 σ ρ ∧ Ext F1 H2 F3 H3 ∧ ∃ kd, Is F3 ky kd ∧ Po A W E F (if (okKey kd && decide (kvs.length < sizeLine)) = true then .nx (ρ.set i (some (.dct (putK kvs kd d)))) else .bad)) I2 ⟨F1, ρ, S1, ?_⟩) fun iv s3 ⟨ky, H3, I3, rk, F3, S3, x3, kd, ik, q3⟩ => ?_
          · unfold thenS at q2
            cases hf : fk ρ with
            | bad => rw [hf] at q2; exact q2
            | ex c => rw [hf] at q2; exact Po.pex (E := E) S1 ((show Po A W E F (.ex c) from q2).mono e1)
            | ok kd => rw [hf] at q2; exact fun w F' H' x i => ⟨F', S1.grow x, x, kd, i, q2⟩
          · by_cases hc : (okKey kd && decide (kvs.length < sizeLine)) = true
            · rw [if_pos hc] at q3
              rw [Bool.and_eq_true] at hc
              have hlt : kvs.length < sizeLine := of_decide_eq_true hc.2
              have hp3 := x3.keep _ _ hp
              have hF3 := x3.new _ _ hF hp
              have hE3 := hE.mono x3.up
              have hl : ys.length = kvs.length := Paired.length hE
              refine dct_set hu I3 (by rw [← hw]; exact hp3) (hE3.mono S3.le) hz hc.1 (ik.mono S3.le) rk rv fun kk b o4 s4 eb ek hdp hlen I4 => ?_
              subst eb
              refine ⟨σ, _, I4, q3 σ F3 _ (S3.putW (x := .dct kvs) (y := .dct (putK kvs kd d)) (o := dctO X.w p (storedE ys kk b vv) o4) hr rfl rfl f1 hF3 h0 ⟨p, _, o4, rfl, hF3, h0, by rw [← hw]; exact upd_same, by omega, EntsIs.stored ek hdp ik (id.mono x3.up) hE3⟩) (e1.trans x3.up)⟩
            · rw [if_neg hc] at q3; exact q3.elim
end
end DL

/-! The data layer, part 11: sorted of a dict; enumerate of lists and tuples. -/
namespace DL
open PySem PySem.Spec PyProof.Rows L2

/-! ### sorted(d) -/
def sortK (ds : List D) : Res (List D) := .of (sortedD [.list ds])
def sortedDR (i : Nat) : Rho → Res (List D) := dctR i fun kvs _ => sortK (kvs.map (·.1))
theorem sortedD_some {ds out : List D} (h : sortedD [.list ds] = some out) : (allLike ds && sortsD ds && ds.all fun d => decide (d.depth ≤ 60)) = true ∧ out = ds.mergeSort dle := by
  have e : sortedD [.list ds] = if (allLike ds && sortsD ds && ds.all fun d => decide (d.depth ≤ 60)) = true then some (ds.mergeSort dle) else none := rfl
  rw [e] at h
  by_cases hc : (allLike ds && sortsD ds && ds.all fun d => decide (d.depth ≤ 60)) = true
  · rw [if_pos hc] at h
    exact ⟨hc, (Option.some.inj h).symm⟩
  · rw [if_neg hc] at h
    cases h
theorem EntsIs.keysIs [Wd] {F : Hp} {ys : List Ent} {kvs : List (D × D)} (h : EntsIs F ys kvs) : IsA F (ys.map fun y => V.ref y.2.1) (kvs.map (·.1)) := by
  induction h with
  | nil => exact .nil
  | cons h t ih => exact .cons h.2.2.1 ih
theorem rawKeys_vals {w : World} {ys : List Ent} {xs : List (NestedKey × Addr × Value)} {es : Array DictEntry} (ev : EntV ys xs) (he : es.toList = xs.map fun x => (⟨x.1.hash w, .ref x.2.1, x.2.2⟩ : DictEntry)) {us : List Value} (hl : us.length = es.size)
    (hk : ∀ (j : Nat) (v : Value), us[j]? = some v → ∃ hi : j < es.size, v = es[j].key) : Vals (ys.map fun y => V.ref y.2.1) us := by
  have e1 : us = xs.map fun x => Value.ref x.2.1 := by
    apply List.ext_getElem?
    intro j
    have hx : es.size = xs.length := by
      have := congrArg List.length he
      simpa using this
    by_cases hj : j < us.length
    · rw [List.getElem?_eq_getElem hj]
      obtain ⟨hi, e⟩ := hk j _ (List.getElem?_eq_getElem hj)
      have hjx : j < xs.length := by omega
      rw [List.getElem?_map, List.getElem?_eq_getElem hjx, e]
      have q : es.toList[j]? = (xs.map fun x => (⟨x.1.hash w, .ref x.2.1, x.2.2⟩ : DictEntry))[j]? := by rw [he]
      rw [Array.getElem?_toList, Array.getElem?_eq_getElem hi, List.getElem?_map, List.getElem?_eq_getElem hjx] at q
      have q' := Option.some.inj q
      rw [q']
      rfl
    · rw [List.getElem?_eq_none (by omega), List.getElem?_eq_none (by rw [List.length_map]; omega)]
  rw [e1]
  clear hk hl e1 he
  induction ev with
  | nil => exact .nil
  | cons h t ih => exact .cons (by show Value.ref _ = Value.ref _; rw [h.2.1]) ih
section
variable [Wd] {X : Cx} {A : Amb} {W : WX} {p pos : Pos}
theorem o_sortedD (i : Nat) {x : Str} {px : Pos} (hw : Wd.w = X.w) (hu : X.A.units + 64 < cLine) (hc : X.calm = true) (hm : X.mg "sorted" = none) (hN : X.N[i]? = some x := by rfl) (hvi : Vis X.env.scope x := by first | exact Or.inl rfl | exact Or.inr (Or.inl rfl) | exact Or.inr (Or.inr rfl))
    (hd : (x == ("__debug__" : Str)) = false := by decide) (hcd : (x == ("__classdict__" : Str)) = false := by decide) (hg : Gl X "sorted" := by rfl)
    (he : starEach [.Name x px] X.env = (false, eval (.Name x px) X.env) :: starEach [] X.env := by rfl) (hpl : (backTo pos (starEach [] X.env)).any (·.1) = false := by rfl) :
    OE X A W (.Call (.Name "sorted" p) [.Name x px] [] pos) (sortedDR i) := by
  have cr : CallR X (.builtin "sorted") (fun xs H Q => ∃ (F : Hp) (a : Addr) (ys : List Ent) (o : Obj) (kvs : List (D × D)) (ds : List D), xs = [.ref a] ∧ Same F H ∧ H a = some (dctO X.w a ys o) ∧ ys.length ≤ sizeLine ∧ EntsIs F ys kvs ∧ sortedD [.list (kvs.map (·.1))] = some ds ∧
      ∀ p vs F' H', Ext F H F' H' → F' p = none → H p = none → H' p = some (.lst vs) → vs.length ≤ sizeLine → IsA F' vs ds → Q (.ref p) H') := by
    intro pins s σ H xs us Q I r h
    obtain ⟨F, a, ys, o9, kvs, ds, rfl, le, ha, hz, hE, e, q⟩ := h
    obtain ⟨u, rfl, rx⟩ := vals1 r
    cases rx
    obtain ⟨hcc, rfl⟩ := sortedD_some e
    · · rw [Bool.and_eq_true, Bool.and_eq_true] at hcc
        obtain ⟨⟨hal, hk⟩, hdp⟩ := hcc
        obtain ⟨lo, zs, ev, ⟨o, es, ep, ho, hx, hdt, hes⟩, _⟩ := (Inv.dct I ha).1
        have hraw : s.heap.DictRaw a es ep := ⟨o, ho, hx, hdt⟩
        have hsz : es.size = ys.length := by
          have h1 := congrArg List.length hes
          have h2 := Paired.length ev
          simp at h1
          omega
        refine Calls.call_function_entry PyProof.Rows.kind_sorted PyProof.Rows.plain_sorted PyProof.Rows.entry_sorted (PyProof.Rows.args_sorted1 _) ?_
        unfold Builtin.«sorted»
        refine wpAny_bind (m := checkCount "sorted" 1 1 _) (wpAny_pure ?_)
        refine wpAny_bind (PySem.W.kdu_collect (A := X.A.in1) (KdlSrc.rawDict (es := es) (ep := ep) lo) (I.ok.hd hc) hraw (by omega) fun h' tk acc hkp hacc => ?_)
        have hal' : acc.toList.length = es.size := by rw [Array.length_toList, hacc.1]
        have rv : Vals (ys.map fun y => V.ref y.2.1) acc.toList := rawKeys_vals ev hes hal' fun j v e => hacc.2 j v (by rw [← Array.getElem?_toList]; exact e)
        have I1 : L2.Inv X pins σ H { s with heap := h', toks := tk } := I.kept hkp
        have t := hE.keysIs
        have hlen : (ys.map fun y => V.ref y.2.1).length = (kvs.map (·.1)).length := t.length
        have hs16 : sizeLine = 16777216 := sizeLine_eq
        refine wpAny_bind (wpAny_newList ?_ (by rw [hal']; omega))
        have hoL : (h'.push (seqObj "list" acc.toList.toArray 0)).get? h'.objs.size = some (seqObj "list" acc.toList.toArray 0) := Heap.get?_push_size _ rfl
        show wpAny _ _ _ _ _ { s with heap := h'.push (seqObj "list" acc.toList.toArray 0), toks := tk }
        have I2 : L2.Inv X pins σ H { s with heap := h'.push (seqObj "list" acc.toList.toArray 0), toks := tk } := I1.kept (t' := tk) fun _ _ q => Heap.get?_push_of_some _ q
        obtain ⟨rs, hrs⟩ := Dp.readsAll I1 (kvs.map (·.1)) (ys.map fun y => V.ref y.2.1) acc.toList ((t.mono le).dp (allLike_noDct hal)) rv
        have es2 := map_snd_zip (ys.map fun y => V.ref y.2.1) (kvs.map (·.1)) hlen
        refine wpAny_bind (wpAny_holding (PySem.W.list_sort_data (s := { s with heap := h'.push (seqObj "list" acc.toList.toArray 0), toks := tk }) (enc := Prod.snd) (R := fun u (p : V × D) => RelV p.1 u) hoL (each_zip (F := F) (R := fun _ _ => True) rv hlen) ?_ (by rw [es2]; exact allLike_ok hal) (by rw [es2]; exact sortsD_ok hk)
          (by rw [List.length_zip, List.length_map]; omega) (fun b hb => ?_) fun out hol eo => ?_))
        · refine (each_reads hrs hlen).mono fun u b ⟨as, ra⟩ => ⟨as, PyProof.Rows.Reads.keeps (fun _ _ q => Heap.get?_push_of_some _ q) ra, fun hm => ?_⟩
          obtain ⟨o, ho⟩ := PyProof.On.reads_mem_get ra _ hm
          exact absurd (Heap.lt_size ho) (Nat.lt_irrefl _)
        · have hb' : b.2 ∈ kvs.map (·.1) := (List.of_mem_zip (a := b.1) (b := b.2) hb).2
          have := of_decide_eq_true (List.all_eq_true.mp hdp _ hb')
          show X.A.units + 1 + 1 + b.2.depth < cLine
          omega
        · have rv' := vals_each eo
          have e2 : (((ys.map fun y => V.ref y.2.1).zip (kvs.map (·.1))).mergeSort (PySem.W.dataLe false Prod.snd)).map Prod.snd = (kvs.map (·.1)).mergeSort dle := by
            exact (PySem.W.sort_maps (r := PySem.W.dataLe false Prod.snd) (s := dle) Prod.snd (fun a _ b _ => rfl)).trans (by rw [es2])
          obtain ⟨e', he'⟩ := PyProof.Rows.sortedHeap_at (vs := acc.toList) (out := out.toArray) hoL
          have hl2 : ((((ys.map fun y => V.ref y.2.1).zip (kvs.map (·.1))).mergeSort (PySem.W.dataLe false Prod.snd)).map Prod.fst).length ≤ sizeLine := by
            rw [List.length_map, List.length_mergeSort, List.length_zip, List.length_map]; omega
          have hn : H h'.objs.size = none := I1.hok.fresh (Nat.le_refl _)
          refine wpAny_pure ⟨_, rfl, .ref h'.objs.size, upd H h'.objs.size (.lst ((((ys.map fun y => V.ref y.2.1).zip (kvs.map (·.1))).mergeSort (PySem.W.dataLe false Prod.snd)).map Prod.fst)), I1.laid (t' := tk) (fun b u e => ?_) (Nat.le_refl _) ⟨hl2, out, e', rv', he'⟩, rfl, ?_⟩
          · have hb : b < h'.objs.size := Heap.lt_size e
            rw [PyProof.Rows.sortedHeap_old (Nat.ne_of_lt hb) (by rw [size_push']; exact Nat.lt_succ_of_lt hb)]
            exact Heap.get?_push_of_some _ e
          · refine q _ _ F _ (.fresh le hn) (none_of_le le hn) hn upd_same hl2 ?_
            rw [← e2]
            exact IsA.pairs fun p hp => IsA.zip t p (List.mem_mergeSort.mp hp)
  exact peI (pe_callB cr hg hm (by decide +kernel) (pa_cons (pe_var hN hvi hd hcd) pa_nil he) (by decide) (by decide) he hpl) fun σ H Q ⟨F, ρ, S, q⟩ => by
    unfold sortedDR at q
    obtain ⟨kvs, hr, eq⟩ := dctR_of fun z => by rw [z] at q; exact q
    rw [eq] at q
    obtain ⟨v, e1, p, ys, o1, rfl, hF, h0, hp, hz, hE⟩ := S.val i _ hr
    refine ⟨_, e1, F, p, ys, o1, kvs, ?_⟩
    unfold sortK at q
    cases hs : sortedD [.list (kvs.map (·.1))] with
    | none => rw [hs] at q; exact q.elim
    | some ds => rw [hs] at q; exact ⟨ds, rfl, S.le, by rw [← hw]; exact hp, hz, hE, rfl, q⟩
end
end DL

/-! The data layer, part 12: enumerate of lists and tuples; is None. -/
namespace DL
open PySem PySem.Spec PyProof.Rows L2

section
open PySem (sub_enumerate rawInt)
set_option maxHeartbeats 1000000 in
theorem meets_enumT (l : Addr) (items : Array Value) :
    Meets (Builtin.«enumerate.__new__» ⟨[.type "enumerate", .ref l], []⟩) (fun _ R s => s.heap.IsTuple l items ∧
      R (.ok (.ret (.ref (s.heap.push { cls := .type "tuple_iterator", data := .fields #[.ref l, .int 0 0] }).objs.size)))
        { s with heap := (s.heap.push { cls := .type "tuple_iterator", data := .fields #[.ref l, .int 0 0] }).push { cls := .type "enumerate", data := .fields #[.none, .bool false, .ref s.heap.objs.size, rawInt 0, .none, .none] } }) :=
  .of_wp fun prog w A R s h => by
    obtain ⟨hp, g, d, tk, os⟩ := s; obtain ⟨hl, h⟩ := h
    have hsub := sub_enumerate
    have q1 : ∀ {A' : Around} {E : Value → Shared → Prop} {Q : Value → Shared → Prop}, Q (.ref hp.objs.size) ⟨hp.push { cls := .type "tuple_iterator", data := .fields #[.ref l, .int 0 0] }, g, d, tk, os⟩ → wpAny (model prog w) A' (pyIter (.ref l)) Q E ⟨hp, g, d, tk, os⟩ :=
      fun q => wpAny_pyIter_tuple (s := ⟨hp, g, d, tk, os⟩) hl q
    wp_walk using q1
    refine wpAny_stack_any fun st => wpAny_pure ?_
    split
    · rename_i c _ _ _ _ _
      cases (c == Value.type "enumerate")
      · wp_walk using q1
        exact ⟨_, rfl, h⟩
      · wp_walk using q1
        exact ⟨_, rfl, h⟩
    · wp_walk using q1
      exact ⟨_, rfl, h⟩
end
section
variable {prog : Program} {w : World} {A : Around} {E : Value → Shared → Prop} {s : Shared}
theorem call_enumT {l : Addr} {items : Array Value} {Q : Value → Shared → Prop} (hL : s.heap.IsTuple l items)
    (h : ∀ h', IsEnum h' (s.heap.objs.size + 1) s.heap.objs.size 0 .none → h'.IsTupleIter s.heap.objs.size l 0 → (∀ b o, s.heap.get? b = some o → h'.get? b = some o) → Q (.ref (s.heap.objs.size + 1)) { s with heap := h' }) :
    wpAny (model prog w) A (call (.type "enumerate") [.ref l]) Q E s := by
  refine callType_new F.called_enumerate (by decide) (F.typeCall_enumerate_1 _) (F.newCall_enumerate_1 _) (fun obj => F.args_object_init_2 obj _) F.entry_enumerate_new
    (meets_enumT l items) ⟨hL, ?_⟩
  have hz : (s.heap.push { cls := .type "tuple_iterator", data := .fields #[.ref l, .int 0 0] }).objs.size = s.heap.objs.size + 1 := Heap.size_push ..
  show _ ∧ _
  rw [hz]
  have he : IsEnum ((s.heap.push { cls := .type "tuple_iterator", data := .fields #[.ref l, .int 0 0] }).push
      { cls := .type "enumerate", data := .fields #[.none, .bool false, .ref s.heap.objs.size, rawInt 0, .none, .none] }) (s.heap.objs.size + 1) s.heap.objs.size 0 .none := by
    have := Heap.get?_push_size (s.heap.push { cls := .type "tuple_iterator", data := .fields #[.ref l, .int 0 0] })
      (o := { cls := .type "enumerate", data := .fields #[.none, .bool false, .ref s.heap.objs.size, rawInt 0, .none, .none] }) rfl
    rw [hz] at this; exact this
  exact ⟨⟨_, he, rfl⟩, h _ he ⟨_, Heap.get?_push_of_some _ (Heap.get?_push_size _ rfl), rfl, rfl⟩ fun b o x => Heap.get?_push_of_some _ (Heap.get?_push_of_some _ x)⟩
end
/-- the tuple at a, each item in a new pair -/
def IteT (K : PySem.W.Frag) (a : Addr) : It :=
  ⟨fun i H => ∃ (xs : List V) (x : V), SqT K H a xs ∧ xs[i]? = some x, fun i H v H' => ∃ T x, v = .ref T ∧ H T = none ∧ H' = upd H T (.tup [.int (i : Nat), x]) ∧ ∀ xs, SqT K H a xs → xs[i]? = some x, fun i H => ∃ xs : List V, SqT K H a xs ∧ xs.length ≤ i⟩
theorem turn_enumT {P : Program} {w : World} {K : PySem.W.Frag} {elts : List Expr} {kk : Nat} {tpos : Pos} (a e it : Addr) (hea : e ≠ a) (hia : a ≠ it) :
    Turn P w K (.Tuple elts kk tpos) (IteT K a) [e, it] e (fun i h => (∃ old, IsEnum h e it ((i : Nat) : Int) old) ∧ h.IsTupleIter it a i ∧ e ≠ it) where
  mem := by simp
  obj := fun i h st b hb => by
    obtain ⟨⟨old, he⟩, ⟨o, ho, hc, hd⟩, _⟩ := st
    have e' : b = e ∨ b = it := by simpa using hb
    rcases e' with z | z
    · rw [z]; exact ⟨_, he, fun v q => nomatch q⟩
    · rw [z]; exact ⟨o, ho, fun v q => by rw [hd] at q; cases q⟩
  keep := fun i h h' st k => let ⟨⟨old, he⟩, hi, hne⟩ := st; ⟨⟨old, k e (by simp) _ he⟩, hi.at fun o q => k it (by simp) o q, hne⟩
  item := by
    intro X hP hw hK hc i pins s σ H E I hf st hg
    subst hP hw hK
    obtain ⟨⟨old, he⟩, hit, hne⟩ := st
    obtain ⟨xs, x, hq, hx⟩ := hg
    obtain ⟨its, rv, p, hz⟩ := I.tuple hq
    obtain ⟨u, hu, ru⟩ := rv.get hx
    have hel : e < s.heap.objs.size := Heap.lt_size he
    have hil : it < s.heap.objs.size := by obtain ⟨_, q, _⟩ := hit; exact Heap.lt_size q
    have hi : i < its.toArray.size := by
      have := (List.getElem?_eq_some_iff.mp hu).1
      simpa using this
    have ef : e ∉ [it, a] := by simp [hne, hea]
    refine wpAny_pyNext_enum_itemD (Draws.tuple (A := X.A.in1) (I.ok.hd hc) it a hia its.toArray) he ⟨hit, (show s.heap.IsTuple a its.toArray from p)⟩ hi hne ef fun y h' tk hy ho st' hT hsz hk => ?_
    have ey : y = u := by
      have : its[i]? = some y := by simpa using hy
      rw [hu] at this
      exact (Option.some.inj this).symm
    subst ey
    refine ⟨_, rfl, wpAny_letOwnedTupleGo_enum (s := { s with heap := h', toks := tk + 1 }) ho fun h'' he' sb => ?_⟩
    have hT2 : h''.get? s.heap.objs.size = some { cls := .type "tuple", data := .seq #[.int i tk, y] } := (sb.2 _ (Nat.ne_of_gt hel)).trans hT
    have new : ObjOk X.prog X.w (upd H s.heap.objs.size (.tup [.int (i : Nat), x])) h'' s.heap.objs.size (.tup [.int (i : Nat), x]) :=
      ⟨by show 2 ≤ sizeLine; decide, [.int i tk, y], .cons ⟨_, rfl⟩ (.cons ru .nil), ⟨_, hT2, rfl, _, rfl⟩⟩
    have I1 : L2.Inv X pins σ (upd H s.heap.objs.size (.tup [.int (i : Nat), x])) { s with heap := h'', toks := tk + 1 } :=
      I.turnedNew (ch := [e, it]) (fun b ob hb q => (sb.2 b (fun z => hb (by simp [z]))).trans (hk b ob (fun z => hb (by simp [z])) (fun z => hb (by simp [z])) q)) hf (Nat.le_refl _) new
    refine ⟨.ref s.heap.objs.size, _, I1, rfl, ⟨_, x, rfl, I.hok.fresh (Nat.le_refl _), rfl, fun ys hy => by rw [I.tuple_inj hy hq]; exact hx⟩, ⟨⟨y, ?_⟩, st'.1.at fun o q => (sb.2 it (Ne.symm hne)).trans q, hne⟩, fun b hb => ?_⟩
    · have e1 : ((i + 1 : Nat) : Int) = (i : Int) + 1 := by omega
      rw [e1]; exact he'
    · have hb' : b < s.heap.objs.size := by
        have e' : b = e ∨ b = it := by simpa using hb
        rcases e' with z | z
        · rw [z]; exact hel
        · rw [z]; exact hil
      rw [upd_ne (Nat.ne_of_lt hb')]
      exact (hf b hb).1
  done := by
    intro X hP hw hK hc i pins s σ H E I hf st hg
    subst hP hw hK
    obtain ⟨⟨old, he⟩, hit, hne⟩ := st
    obtain ⟨xs, hq, hx⟩ := hg
    obtain ⟨its, rv, p, hz⟩ := I.tuple hq
    obtain ⟨f0, f1, f2, f3, f4, f5⟩ := hf it (by simp)
    have hl := rv.length
    have hT : s.TypeIs (.ref e) "enumerate" := ⟨_, he, rfl⟩
    unfold pyNext
    refine wpAny_bind (wpAny_attempt (wpAny_callSpecial?_slot (name := Str.ofString "__next__") hT F.slot_enumerate_next
      (wpAny_call_entry F.slot_enumerate_next hT F.entry_enumerate_next ?_ (F.args_enumerate_next_1 _))))
    show wpAny _ _ (field (.ref e) 2 >>= _) _ _ _
    refine wpAny_bind (wpAny_field he rfl (x := .ref it) rfl ?_)
    refine wpAny_bind (wpAny_nextOf_tuple_end (I.ok.hd hc) hit (show s.heap.IsTuple a its.toArray from p) (by simp; omega) fun h' x he' hx' => ?_)
    obtain ⟨o, ho, hc⟩ := hx'
    refine wpAny_bind (wpAny_isInstance (T := "StopIteration") (b := true) ⟨o, ho, hc⟩ isSubtype_stop ?_)
    exact wpAny_pure ⟨rfl, I.turned (t' := s.toks) (fun b o hb q => he' b o hb q) f0 f1 f3 f4 f5⟩
  self := fun A i s Q E st h => let ⟨⟨_, he⟩, _⟩ := st; wpAny_pyIter_enum he h
def iEnumS (K : PySem.W.Frag) (ta : TA) : TI := fun σ H R => ta σ H fun vs H1 => ∃ a xs, vs = [.ref a] ∧ ((SqL K H1 a xs ∧ R (Ite K a) H1) ∨ (SqT K H1 a xs ∧ R (IteT K a) H1))
theorem pi_enumS [Wd] {X : Cx} {e : Expr} {ta : TA} {p pos tpos : Pos} {elts : List Expr} {kk : Nat} (hg : Gl X "enumerate") (hm : X.mg "enumerate" = none) (ha : PA X [e] ta) (hs : starEach [e] X.env = [(false, eval e X.env)] := by rfl) :
    PI X (.Tuple elts kk tpos) (.Call (.Name "enumerate" p) [e] [] pos) (iEnumS X.K ta) := by
  refine ⟨fun pins s σ H R I h => ?_⟩
  refine Call_ (ld_blt I hg hm boot_enumerate (PyProof.Rows.callWith_type1 (thn (ha.run pos pins s σ H _ I h) fun us s1 ⟨vs, H1, I1, r1, q1⟩ => ?_) hs rfl))
  obtain ⟨a, xs, ex, q⟩ := q1
  subst ex
  cases r1 with
  | cons r rr =>
    cases rr
    cases r
    have fps : ∀ b ∈ [s1.heap.objs.size + 1, s1.heap.objs.size], FpOk X pins H1 b := fun b hb => by
      have e' : b = s1.heap.objs.size + 1 ∨ b = s1.heap.objs.size := by simpa using hb
      have hle : s1.heap.objs.size ≤ b := by
        rcases e' with z | z
        · rw [z]; exact Nat.le_add_right _ _
        · rw [z]; exact Nat.le_refl _
      exact I1.fpOk hle (I1.hok.fresh hle)
    rcases q with ⟨hq, q⟩ | ⟨hq, q⟩
    · obtain ⟨its, rv, p', hz⟩ := I1.list hq
      refine call_enumerate_list p'.isList fun h' he hit hsz hk => wpAny_pyIter_enum he ?_
      have I2 : L2.Inv X pins σ H1 { s1 with heap := h' } := I1.kept (t' := s1.toks) hk
      exact ⟨s1.heap.objs.size + 1, [s1.heap.objs.size + 1, s1.heap.objs.size], _, _, H1, rfl, I2, turn_enum a (s1.heap.objs.size + 1) s1.heap.objs.size, ⟨⟨.none, he⟩, hit, Nat.succ_ne_self _⟩, fps, q⟩
    · obtain ⟨its, rv, p', hz⟩ := I1.tuple hq
      have hal : a < s1.heap.objs.size := by obtain ⟨o, ho, _⟩ := (show s1.heap.IsTuple a its.toArray from p'); exact Heap.lt_size ho
      refine call_enumT (show s1.heap.IsTuple a its.toArray from p') fun h' he hit hk => wpAny_pyIter_enum he ?_
      have I2 : L2.Inv X pins σ H1 { s1 with heap := h' } := I1.kept (t' := s1.toks) hk
      exact ⟨s1.heap.objs.size + 1, [s1.heap.objs.size + 1, s1.heap.objs.size], _, _, H1, rfl, I2, turn_enumT a (s1.heap.objs.size + 1) s1.heap.objs.size (Nat.ne_of_gt (Nat.lt_succ_of_lt hal)) (Nat.ne_of_lt hal), ⟨⟨.none, he⟩, hit, Nat.succ_ne_self _⟩, fps, q⟩
def enumL (xs : List D) : List D := xs.zipIdx.map fun p => .tuple [.int ((p.2 : Nat) : Int), p.1]
def toEnum (f : Rho → Res D) : Rho → Res (List D) := fun ρ => (f ρ).bind fun d => (Res.of (seqOf d)).map enumL
theorem enumL_len (xs : List D) : (enumL xs).length = xs.length := by unfold enumL; rw [List.length_map, List.length_zipIdx]
theorem enumL_at {xs : List D} {i : Nat} {x : D} (h : (enumL xs)[i]? = some x) : ∃ y, xs[i]? = some y ∧ x = .tuple [.int ((i : Nat) : Int), y] := by
  unfold enumL at h
  rw [List.getElem?_map, List.getElem?_zipIdx] at h
  cases hx : xs[i]? with
  | none => rw [hx] at h; cases h
  | some y =>
    rw [hx] at h
    have e := Option.some.inj h
    refine ⟨y, rfl, ?_⟩
    rw [← e]
    simp
theorem ite_F [Wd] {K : PySem.W.Frag} {F : Hp} {a : Addr} {vs : List V} {xs : List D} (h : Rd F a (.lst vs)) (t : IsA F vs xs) : ItF (Ite K a) F (enumL xs) := fun i F' H' hF hl => by
  have hs : SqL K H' a vs := .inl (Rd.mono (hF.trans hl) h)
  refine ⟨fun x hx => ?_, fun hi => ⟨vs, hs, by rw [enumL_len] at hi; rw [t.length]; exact hi⟩⟩
  obtain ⟨y, hy, rfl⟩ := enumL_at hx
  obtain ⟨v, hv, iv⟩ := t.get hy
  refine ⟨⟨vs, v, hs, hv⟩, fun v' H2 z => ?_⟩
  obtain ⟨T, u, rfl, hn, rfl, z⟩ := z
  have e := (z vs hs).symm.trans hv
  cases e
  refine ⟨upd F' T (.tup [.int (i : Nat), v]), .laid hl hn, .tup (.inl upd_same) (show 2 ≤ sizeLine by decide) (.cons (.int _) (.cons ((iv.mono hF).mono (same_upd (none_of_le hl hn))) .nil))⟩
theorem itt_F [Wd] {K : PySem.W.Frag} {F : Hp} {a : Addr} {vs : List V} {xs : List D} (h : Rd F a (.tup vs)) (t : IsA F vs xs) : ItF (IteT K a) F (enumL xs) := fun i F' H' hF hl => by
  have hs : SqT K H' a vs := .inl (Rd.mono (hF.trans hl) h)
  refine ⟨fun x hx => ?_, fun hi => ⟨vs, hs, by rw [enumL_len] at hi; rw [t.length]; exact hi⟩⟩
  obtain ⟨y, hy, rfl⟩ := enumL_at hx
  obtain ⟨v, hv, iv⟩ := t.get hy
  refine ⟨⟨vs, v, hs, hv⟩, fun v' H2 z => ?_⟩
  obtain ⟨T, u, rfl, hn, rfl, z⟩ := z
  have e := (z vs hs).symm.trans hv
  cases e
  refine ⟨upd F' T (.tup [.int (i : Nat), v]), .laid hl hn, .tup (.inl upd_same) (show 2 ≤ sizeLine by decide) (.cons (.int _) (.cons ((iv.mono hF).mono (same_upd (none_of_le hl hn))) .nil))⟩
section
variable [Wd] {X : Cx} {A : Amb} {W : WX} {e : Expr} {f : Rho → Res D} {p pos tpos : Pos} {elts : List Expr} {kk : Nat}
theorem i_enumF (hm : X.mg "enumerate" = none) (ha : DE X A W e f) (hg : Gl X "enumerate" := by rfl) (hs : starEach [e] X.env = [(false, eval e X.env)] := by rfl) (hp : (backTo pos (starEach ([] : List Expr) X.env)).any (·.1) = false := by rfl) :
    IF X A W (.Tuple elts kk tpos) (.Call (.Name "enumerate" p) [e] [] pos) (toEnum f) :=
  piI (pi_enumS hg hm (pa_cons ha pa_nil hs) hs) fun σ H R ⟨F, ρ, S, q⟩ => ⟨F, ρ, S, by
    unfold toEnum at q
    cases hf : f ρ with
    | bad => rw [hf] at q; exact q
    | ex c => rw [hf] at q; exact q
    | ok d =>
      rw [hf] at q
      simp only [Res.bind_ok] at q
      intro v F1 H1 x1 i1
      cases d with
      | list xs =>
        cases i1 with
        | lst hp z t => exact ⟨_, _, rfl, .inl ⟨.inl (Rd.mono x1.le hp), q (Ite X.K _) F1 H1 x1 (ite_F hp t) (by rw [enumL_len, ← t.length]; exact z)⟩⟩
      | tuple xs =>
        cases i1 with
        | tup hp z t => exact ⟨_, _, rfl, .inr ⟨.inl (Rd.mono x1.le hp), q (IteT X.K _) F1 H1 x1 (itt_F hp t) (by rw [enumL_len, ← t.length]; exact z)⟩⟩
      | _ => exact q.elim⟩
end
end DL

/-! The data layer, part 13: glue for printed walks. -/
namespace DL
open PySem PySem.Spec PyProof.Rows L2
theorem takesW [Wd] {X : Cx} : Takes X W0 := fun u s' ⟨a, B, sI, pins, σ, H, cls, d, e, I, nb, up, sky, na, os, ag, w⟩ => w.elim
section
variable [Wd] {P : Program} {w : World} {K : PySem.W.Frag} {mg : Str → Option Value} {base : Heap} {Z : String → Addr → Prop}
theorem DefD.z {Z' : String → Addr → Prop} {k : Nat} {x : Str} {ps : List Str} {fD : List D → RO} (h : DefD P w K mg base Z k x ps fD) (e : Z' = Z) : DefD P w K mg base Z' k x ps fD := e ▸ h
theorem std_of {x : Str} {st : Stmt} {ps : List Str} {f : Addr} {fd : FuncData} (F : FunD K x x (defArgs st) (defBody st) (defScope st) [] [] f fd) (hm : mg x = some (.ref f))
    (h : ∀ (kV doc pm : Value) (an : Option Addr) (cdv ct : Value) (us : List Value), us.length = ps.length → bindArgs (PySem.W.fnOf x x (defArgs st) (defBody st) (defScope st) .none kV doc pm an cdv ct) ⟨us, []⟩ = pure (ps.zip us)) : Std K mg x st ps := by
  have b : Binds K fd ps [] := F.bindsN h
  obtain ⟨oc, od, dV, kV, doc, pm, an, cdv, ct, osl, rfl, lk, hcd, hD, hK⟩ := F.ex
  rcases hD with ⟨_, rfl⟩ | ⟨e, _⟩
  · exact ⟨f, _, ⟨⟨oc, od, kV, doc, pm, an, cdv, ct, osl, rfl, lk, hcd⟩, F.kp⟩, hm, b⟩
  · exact absurd rfl e
end
theorem fun_of {K : PySem.W.Frag} {x qual : Str} {st : Stmt} {ps : List Str} {f : Addr} {fd : FuncData} (F : FunD K x qual (defArgs st) (defBody st) (defScope st) [] [] f fd)
    (h : ∀ (kV doc pm : Value) (an : Option Addr) (cdv ct : Value) (us : List Value), us.length = ps.length → bindArgs (PySem.W.fnOf x qual (defArgs st) (defBody st) (defScope st) .none kV doc pm an cdv ct) ⟨us, []⟩ = pure (ps.zip us)) : ∃ fd, Fun K x qual st f fd ∧ Binds K fd ps [] := by
  have b : Binds K fd ps [] := F.bindsN h
  obtain ⟨oc, od, dV, kV, doc, pm, an, cdv, ct, osl, rfl, lk, hcd, hD, hK⟩ := F.ex
  rcases hD with ⟨_, rfl⟩ | ⟨e, _⟩
  · exact ⟨_, ⟨⟨oc, od, kV, doc, pm, an, cdv, ct, osl, rfl, lk, hcd⟩, F.kp⟩, b⟩
  · exact absurd rfl e
section
variable [Wd] {X : Cx} {A : Amb} {W : WX}
theorem d_kint {x : Str} {i : Int} {pos : Pos} (hm : ∃ t, X.mg x = some (.int i t)) (hg : Gl X x := by rfl) (hd : (x == ("__debug__" : Str)) = false := by decide) : DE X A W (.Name x pos) (kst (.int i)) := by
  obtain ⟨t, h⟩ := hm
  exact d_glob (v := .int i) hg h ⟨t, rfl⟩ (fun _ => .int i) hd
theorem d_kstr {x z : Str} {pos : Pos} (hm : ∃ t, X.mg x = some (.str z t)) (hg : Gl X x := by rfl) (hd : (x == ("__debug__" : Str)) = false := by decide) : DE X A W (.Name x pos) (kst (.str z)) := by
  obtain ⟨t, h⟩ := hm
  exact d_glob (v := .str z) hg h ⟨t, rfl⟩ (fun _ => .str z) hd
end
end DL

/-! The data layer, part 15: range with step -1; is None; list.index; max of ints; [::-1]. -/
namespace DL
open PySem PySem.Spec PyProof.Rows L2
/-! ### range(i, j, -1) -/
def downFrom (hi : Int) (n : Nat) : List D := (List.range n).map fun k => .int (hi - (k : Nat))
def rng3 : List D → Option (List D)
  | [.int i, .int j, .int c] => if (smallR i && smallR j && decide (c = -1)) = true then some (downFrom i (i - j).toNat) else none
  | _ => none
theorem itc_F [Wd] {hi : Int} {n : Nat} {F : Hp} : ItF (Itc hi (-1) n) F (downFrom hi n) := fun i F' H' hF hl => by
  refine ⟨fun x hx => ?_, fun h => ?_⟩
  · unfold downFrom at hx
    rw [List.getElem?_map] at hx
    obtain ⟨k, hk, e⟩ := Option.map_eq_some_iff.mp hx
    obtain ⟨h1, h2⟩ := List.getElem?_eq_some_iff.mp hk
    rw [List.getElem_range] at h2
    subst h2
    rw [List.length_range] at h1
    refine ⟨h1, fun v H2 y => ?_⟩
    obtain ⟨rfl, rfl⟩ := y
    subst e
    refine ⟨F', .refl hl, ?_⟩
    rw [show hi + ((i : Nat) : Int) * -1 = hi - ((i : Nat) : Int) by omega]
    exact .int _
  · unfold downFrom at h
    rw [List.length_map, List.length_range] at h
    exact h
section
variable [Wd] {X : Cx} {A : Amb} {W : WX} {tg a b c : Expr} {g : Rho → Res (List D)} {p pos : Pos}
theorem i_rng3 (hm : X.mg "range" = none) (ha : BAs X A W [a, b, c] g) (hg : Gl X "range" := by rfl)
    (hs : starEach [a, b, c] X.env = (false, eval a X.env) :: starEach [b, c] X.env := by rfl) (hpl : (backTo pos (starEach [b, c] X.env)).any (·.1) = false := by rfl) : IF X A W tg (.Call (.Name "range" p) [a, b, c] [] pos) (cb rng3 g) :=
  piI (pi_range3 hg hm ha hs hpl) fun σ H R ⟨F, ρ, S, q⟩ => ⟨F, ρ, S, by
    unfold cb at q
    cases hf : g ρ with
    | bad => rw [hf] at q; exact q
    | ex c => rw [hf] at q; exact q
    | ok ds =>
      rw [hf] at q
      simp only [Res.bind_ok] at q
      intro vs F1 H1 x1 i1
      cases hk : rng3 ds with
      | none => rw [hk] at q; exact q.elim
      | some xs =>
        rw [hk] at q
        unfold rng3 at hk
        split at hk
        · rename_i i j c
          split at hk
          · rename_i hj
            cases hk
            rw [Bool.and_eq_true, Bool.and_eq_true] at hj
            have h1 := smallR_ok hj.1.1
            have h2 := smallR_ok hj.1.2
            have h3 := of_decide_eq_true hj.2
            subst h3
            cases i1 with
            | cons a1 t =>
              cases t with
              | cons a2 t =>
                cases t with
                | cons a3 t =>
                  cases t
                  cases a1.int
                  cases a2.int
                  cases a3.int
                  exact ⟨i, j, -1, (i - j).toNat, rfl, RgC.neg (by omega) (by omega) (by omega) (by omega), q _ F1 H1 x1 itc_F (by unfold downFrom; rw [List.length_map, List.length_range, sizeLine_eq]; omega)⟩
          · cases hk
        · cases hk⟩
end
/-! ### is None -/
def isNone : D → Bool
  | .none => true
  | _ => false
def isN (neg : Bool) (f : Rho → Res D) : Rho → Res D := fun ρ => (f ρ).map fun d => .bool (neg ^^ isNone d)
theorem IsH.isNon [Wd] {F H : Hp} {v : V} {d : D} (h : IsH F H v d) : decide (v = .non) = isNone d := by
  cases h with
  | of h => cases h <;> simp [isNone]
  | lst h z t => simp [isNone]
section
variable [Wd] {X : Cx} {A : Amb} {W : WX} {a : Expr} {f : Rho → Res D} {pos pos' : Pos} {j : Nat}
theorem c_isN (h : BE X A W a f) : PC X .Is a (.Constant .none j pos') (tD A W (isN false f)) := ⟨fun pins s σ H Q I ⟨F, ρ, S, q⟩ => (pc_isN h).run pins s σ H Q I ⟨F, ρ, S, by
    unfold isN at q
    cases hf : f ρ with
    | bad => rw [hf] at q; exact q
    | ex c => rw [hf] at q; exact q
    | ok d =>
      rw [hf] at q
      intro v F' H' x i
      show Q (.bl (decide (v = .non))) H'
      rw [i.isNon]
      have := q (.bl (isNone d)) F' H' x
      simp only [Bool.false_xor] at this
      exact this (.bl _)⟩⟩
theorem c_notN (h : BE X A W a f) : PC X .IsNot a (.Constant .none j pos') (tD A W (isN true f)) := ⟨fun pins s σ H Q I ⟨F, ρ, S, q⟩ => (pc_notN h).run pins s σ H Q I ⟨F, ρ, S, by
    unfold isN at q
    cases hf : f ρ with
    | bad => rw [hf] at q; exact q
    | ex c => rw [hf] at q; exact q
    | ok d =>
      rw [hf] at q
      intro v F' H' x i
      show Q (.bl (!decide (v = .non))) H'
      rw [i.isNon]
      have := q (.bl (!isNone d)) F' H' x
      simp only [Bool.true_xor] at this
      exact this (.bl _)⟩⟩
theorem d_isN (h : BE X A W a f) : DE X A W (.Compare a [.Is] [.Constant .none j pos'] pos) (isN false f) := pe_cmp (c_isN h) (by rfl)
theorem d_notN (h : BE X A W a f) : DE X A W (.Compare a [.IsNot] [.Constant .none j pos'] pos) (isN true f) := pe_cmp (c_notN h) (by rfl)
theorem tT_of {e : Expr} {g : Rho → Res D} (h : PT X e (L2.tB (tD A W g))) : DT X A W e (toB g) := ptI h fun σ H Q ⟨F, ρ, S, q⟩ => ⟨F, ρ, S, by
    unfold toB at q
    cases hf : g ρ with
    | bad => rw [hf] at q; exact q
    | ex c => rw [hf] at q; exact q
    | ok d =>
      rw [hf] at q
      simp only [Res.bind_ok] at q
      intro v F' H' x i
      cases d with
      | bool b => cases i; exact ⟨b, rfl, q F' H' x⟩
      | _ => exact q.elim⟩
theorem t_isN (h : BE X A W a f) : DT X A W (.Compare a [.Is] [.Constant .none j pos'] pos) (toB (isN false f)) := tT_of (pt_cmp (c_isN h) (by rfl))
theorem t_notN (h : BE X A W a f) : DT X A W (.Compare a [.IsNot] [.Constant .none j pos'] pos) (toB (isN true f)) := tT_of (pt_cmp (c_notN h) (by rfl))
end
/-! ### l.index(x) -/
def indexD : D → D → Option D
  | .list xs, y => if SeqAt.shaped (.list xs) = true ∧ SeqAt.shaped y = true then (xs.findIdx? fun z => PyData.eqv z y).map fun j => .int (j : Nat) else none
  | _, _ => none
def idxR (f g : Rho → Res D) : Rho → Res D := fun ρ => (f ρ).bind fun a => match a with
  | .list xs => (g ρ).bind fun b => .of (indexD (.list xs) b)
  | _ => .bad
section
variable [Wd] {X : Cx} {A : Amb} {W : WX} {o e : Expr} {f g : Rho → Res D} {apos cpos : Pos}
theorem d_index (hu : X.A.units + 65 < cLine) (ho : BE X A W o f) (ha : DE X A W e g) (hbase : attributeBase o "index" X.env (eval o X.env) = eval o X.env := by rfl)
    (hfew : ((backTo cpos (starEach (e :: []) X.env)).all (fun x => !x.1) && (backToKw cpos (keywordEach [] X.env)).all (fun x => x.1.isSome)
      && decide ((e :: []).length + ([] : List Keyword).length + (if ([] : List Keyword).isEmpty then 0 else 1) < 30)) = true := by rfl)
    (hline : (apos.endLine == cpos.line) = true := by rfl) (hs : starEach (e :: []) X.env = (false, eval e X.env) :: starEach [] X.env := by rfl) (hplain : (backTo cpos (starEach [] X.env)).any (·.1) = false := by rfl) :
    DE X A W (.Call (.Attribute o "index" apos) [e] [] cpos) (idxR f g) :=
  peI (pe_bm PySem.F.plainAttrs_list PySem.F.slot_list_index PySem.F.type_list_index (mt_indexD hu) ho (pa_cons ha pa_nil hs) hbase hfew hline hs hplain) fun σ H Q ⟨F, ρ, S, q⟩ => ⟨F, ρ, S, by
    unfold idxR at q
    cases hf : f ρ with
    | bad => rw [hf] at q; exact q
    | ex c => rw [hf] at q; exact q
    | ok a =>
      rw [hf] at q
      simp only [Res.bind_ok] at q
      intro v F1 H1 x1 i1
      cases a with
      | list xs =>
        obtain ⟨p, vs, rfl, hp, z, t⟩ := i1.list x1.le
        refine ⟨.inl ⟨rfl, _, .inl hp⟩, F1, ρ, S.grow x1, ?_⟩
        cases hg : g ρ with
        | bad => rw [hg] at q; exact q
        | ex c => rw [hg] at q; exact q.ext x1
        | ok b =>
          rw [hg] at q
          simp only [Res.bind_ok] at q
          intro w F2 H2 x2 i2
          cases hk : indexD (.list xs) b with
          | none => rw [hk] at q; exact q.elim
          | some d =>
            rw [hk] at q
            unfold indexD at hk
            simp only at hk
            split at hk
            · rename_i hs
              obtain ⟨j, hj, rfl⟩ := Option.map_eq_some_iff.mp hk
              obtain ⟨hlt, h1, h2⟩ := List.findIdx?_eq_some_iff_getElem.mp hj
              have i1' := i1.ext x2
              refine ⟨p, w, b, xs, j, xs[j], rfl, rfl, i1'.dp x2.le (noDct_shaped hs.1), (i2.mono x2.le).dp (noDct_shaped hs.2), hs.1, hs.2, List.getElem?_eq_getElem hlt, h1, fun m z' hm hz => ?_, q _ F2 H2 (x1.trans x2) (.int _)⟩
              obtain ⟨hml, rfl⟩ := List.getElem?_eq_some_iff.mp hz
              simpa using h2 m hm
            · cases hk
      | _ => exact q.elim⟩
end
/-! ### max of a list of ints -/
def intsOf : List D → Option (List Int)
  | [] => some []
  | .int i :: ds => (intsOf ds).map (i :: ·)
  | _ => none
theorem intsOf_some : ∀ {ds : List D} {ns : List Int}, intsOf ds = some ns → ds = ns.map PyData.int
  | [], _, h => by cases h; rfl
  | .int i :: ds, ns, h => by
    simp only [intsOf] at h
    obtain ⟨ms, hm, rfl⟩ := Option.map_eq_some_iff.mp h
    rw [List.map_cons, intsOf_some hm]
  | .none :: _, _, h => by simp [intsOf] at h
  | .bool _ :: _, _, h => by simp [intsOf] at h
  | .str _ :: _, _, h => by simp [intsOf] at h
  | .list _ :: _, _, h => by simp [intsOf] at h
  | .tuple _ :: _, _, h => by simp [intsOf] at h
  | .dict _ :: _, _, h => by simp [intsOf] at h
theorem intsOf_map (ns : List Int) : intsOf (ns.map PyData.int) = some ns := by
  induction ns with
  | nil => rfl
  | cons n ns ih => simp [intsOf, ih]
def maxI (n : Int) (ns : List Int) : Int := ns.foldl max n
theorem maxI_ge (n : Int) (ns : List Int) : n ≤ maxI n ns ∧ ∀ y ∈ ns, y ≤ maxI n ns := by
  unfold maxI
  induction ns generalizing n with
  | nil => simp
  | cons m ns ih =>
    obtain ⟨h1, h2⟩ := ih (max n m)
    rw [List.foldl_cons]
    refine ⟨by omega, fun y hy => ?_⟩
    rcases List.mem_cons.mp hy with rfl | hy
    · omega
    · exact h2 y hy
theorem maxI_mem (n : Int) (ns : List Int) : maxI n ns ∈ n :: ns := by
  unfold maxI
  induction ns generalizing n with
  | nil => simp
  | cons m ns ih =>
    rw [List.foldl_cons]
    rcases List.mem_cons.mp (ih (max n m)) with h | h
    · rw [h]
      by_cases hm : n ≤ m
      · rw [Int.max_eq_right hm]; simp
      · rw [Int.max_eq_left (by omega)]; simp
    · simp [h]
def maxLD : List D → Option D
  | [.list ds] => match intsOf ds with
    | some (n :: ns) => some (.int (maxI n ns))
    | _ => none
  | _ => none
theorem ints_of_IsA [Wd] {F : Hp} : ∀ {vs : List V} {ns : List Int}, IsA F vs (ns.map PyData.int) → vs = ns.map V.int
  | _, [], h => by cases h; rfl
  | _, n :: ns, h => by
    cases h with
    | cons h t => cases h; rw [List.map_cons, ints_of_IsA t]
section
variable [Wd] {X : Cx}
theorem c_maxL (hc : X.calm = true) : CallR X (.builtin "max") (cD maxLD) := by
  intro pins s σ H xs us Q I r h
  obtain ⟨F, as, d, le, ia, e, q⟩ := h
  unfold maxLD at e
  split at e
  · rename_i ds
    split at e
    · rename_i n ns hn
      cases e
      have hd := intsOf_some hn
      subst hd
      obtain ⟨v, rfl, i⟩ := ia.one
      obtain ⟨p, vs, rfl, hp, z, t⟩ := i.list le
      have hv := ints_of_IsA t
      subst hv
      refine cr_max hc pins s σ H _ us Q I r ⟨p, n :: ns, rfl, .inl hp, Nat.succ_pos _, fun m hm hy => ?_⟩
      have e : m = maxI n ns := by
        have h1 := hy _ (maxI_mem n ns)
        have h2 := maxI_ge n ns
        rcases List.mem_cons.mp hm with rfl | hm
        · omega
        · have := h2.2 m hm; omega
      rw [e]
      exact q _ F H (.refl le) (.int _)
    · cases e
  · cases e
end
/-! ### xs[::-1] -/
def revR (f : Rho → Res D) : Rho → Res (List D) := fun ρ => (f ρ).bind fun d => match d with
  | .list xs => .ok xs.reverse
  | _ => .bad
section
variable [Wd] {X : Cx} {A : Amb} {W : WX} {e : Expr} {f : Rho → Res D} {k : Nat} {p1 p2 p3 pos : Pos}
theorem o_rev (h : BE X A W e f) : OE X A W (.Subscript e (.Slice none none (some (.UnaryOp .USub (.Constant (.int 1) k p1) p2)) p3) pos) (revR f) := peI (pe_revL h) fun σ H Q ⟨F, ρ, S, q⟩ => ⟨F, ρ, S, by
  unfold revR at q
  cases hf : f ρ with
  | bad => rw [hf] at q; exact q
  | ex c => rw [hf] at q; exact q
  | ok d =>
    rw [hf] at q
    simp only [Res.bind_ok] at q
    intro v F1 H1 x1 i1
    cases d with
    | list xs =>
      obtain ⟨p, vs, rfl, hp, z, t⟩ := i1.list x1.le
      exact ⟨p, vs, rfl, .inl hp, fun a ha => q a _ F1 _ (x1.trans (.fresh x1.le ha)) (none_of_le x1.le ha) (Same.free x1.keep ha) upd_same (by rw [List.length_reverse]; exact z) t.reverse⟩
    | _ => exact q.elim⟩
end
end DL

/-! The data layer, part 16: append of what an expression with an effect gives; while loops by steps. -/
namespace DL
open PySem PySem.Spec PyProof.Rows L2
def appX (i : Nat) (f : Rho → Res (D × Rho)) : Rho → SO := ownS i fun _ => appE i f
section
variable [Wd] {X : Cx} {A : Amb} {W : WX} {e : Expr} {f : Rho → Res (D × Rho)}
theorem s_appX (i : Nat) {x : Str} {apos cpos p1 pos : Pos} (h : EE X A W e f) (hN : X.N[i]? = some x := by rfl) (hv : Vis X.env.scope x := by first | exact Or.inl rfl | exact Or.inr (Or.inl rfl) | exact Or.inr (Or.inr rfl)) (hd : (x == ("__debug__" : Str)) = false := by decide)
    (hcd : (x == ("__classdict__" : Str)) = false := by decide) (hbase : attributeBase (.Name x p1) "append" X.env (eval (.Name x p1) X.env) = eval (.Name x p1) X.env := by rfl)
    (hfew : ((backTo cpos (starEach (e :: []) X.env)).all (fun x => !x.1) && (backToKw cpos (keywordEach [] X.env)).all (fun x => x.1.isSome)
      && decide ((e :: []).length + ([] : List Keyword).length + (if ([] : List Keyword).isEmpty then 0 else 1) < 30)) = true := by rfl)
    (hline : (apos.endLine == cpos.line) = true := by rfl) (hs : starEach (e :: []) X.env = (false, eval e X.env) :: starEach [] X.env := by rfl) (hplain : (backTo cpos (starEach [] X.env)).any (·.1) = false := by rfl)
    (hsw : swapsWith (.Call (.Attribute (.Name x p1) "append" apos) [e] [] cpos) none pos.line X.env = pure false := by rfl) :
    DS X A W (.Expr (.Call (.Attribute (.Name x p1) "append" apos) [e] [] cpos) pos) (appX i f) :=
  psI (ps_expr (pe_bm PySem.F.plainAttrs_list PySem.F.slot_list_append PySem.F.type_list_append mt_append (pe_var hN hv hd hcd) (pa_cons h pa_nil hs) hbase hfew hline hs hplain) hsw) fun E σ H ⟨F, ρ, S, q⟩ => by
    unfold appX at q
    obtain ⟨xs, hr, q⟩ := own_of q
    obtain ⟨v, e1, p, vs, rfl, hF, h0, hp, hz, hA⟩ := S.val i _ hr
    refine ⟨_, e1, .inl ⟨rfl, _, .inl (.inl hp)⟩, F, ρ, S, ?_⟩
    unfold appE thenE at q
    cases hf : f ρ with
    | bad => rw [hf] at q; exact q
    | ex c => rw [hf] at q; exact Po.pex (E := E) S q
    | ok d =>
      rw [hf] at q
      simp only at q
      intro w F1 H1 S1 up i1
      cases hr1 : d.2[i]? with
      | none => rw [hr1] at q; exact q.elim
      | some o =>
        rw [hr1] at q
        cases o with
        | none => exact q.elim
        | some bb =>
          cases bb with
          | d x => exact q.elim
          | dct x => exact q.elim
          | raw => exact q.elim
          | own ys =>
            simp only at q
            obtain ⟨v', e1', p', vs', rfl, hF', h0', hp', hz', hA'⟩ := S1.val i _ hr1
            rw [e1] at e1'
            cases e1'
            by_cases hl : ys.length < sizeLine
            · rw [if_pos hl] at q
              have hl' : vs'.length < sizeLine := by rw [hA'.length]; exact hl
              refine ⟨p, vs', w, rfl, rfl, hp', hl', ?_⟩
              exact q σ F1 _ (S1.put hr1 e1 hF' h0' hp' (by rw [List.length_append]; exact hl') (hA'.append (.cons i1 .nil))) up
            · rw [if_neg hl] at q; exact q.elim
end
/-! ### while by steps -/
def iter {α : Type} (c : α → Bool) (step : α → α) : Nat → α → α
  | 0, a => a
  | n + 1, a => if c a = true then iter c step n (step a) else a
theorem while_iter {α : Type} {w : Rho → Res Bool} {b : Rho → SO} (I : α → Rho → Prop) (c : α → Bool) (step : α → α) (μ : α → Nat) (hw : ∀ a ρ, I a ρ → w ρ = .ok (c a))
    (hb : ∀ a ρ, I a ρ → c a = true → μ (step a) < μ a ∧ ∃ ρ', b ρ = .nx ρ' ∧ I (step a) ρ') : ∀ (n : Nat) (a : α) (ρ : Rho), μ a ≤ n → I a ρ → ∃ ρ', whileS w b ρ = .nx ρ' ∧ I (iter c step n a) ρ' ∧ c (iter c step n a) = false
  | 0, a, ρ, hn, h => by
    cases hc : c a with
    | true => have := (hb a ρ h hc).1; omega
    | false =>
      refine ⟨ρ, ?_, h, hc⟩
      rw [whileS_eq, hw a ρ h, hc]
  | n + 1, a, ρ, hn, h => by
    cases hc : c a with
    | true =>
      obtain ⟨h1, ρ', h2, h3⟩ := hb a ρ h hc
      obtain ⟨ρ2, h4, h5⟩ := while_iter I c step μ hw hb n (step a) ρ' (by omega) h3
      refine ⟨ρ2, ?_, ?_⟩
      · rw [whileS_eq, hw a ρ h, hc]
        simp only
        rw [h2]
        exact h4
      · unfold iter
        rw [hc, if_pos rfl]
        exact h5
    | false =>
      refine ⟨ρ, ?_, ?_⟩
      · rw [whileS_eq, hw a ρ h, hc]
      · unfold iter
        rw [hc, if_neg (by decide)]
        exact ⟨h, hc⟩
end DL

/-! The data layer, part 17: dicts read: d[k], d.get(k, x), for k in d; min, max of lists of data. -/
namespace DL
open PySem PySem.Spec PyProof.Rows L2

/-! ### what stands at a key -/
theorem atKey_EntV {ys : List Ent} {xs : List (NestedKey × Addr × Value)} {k : NestedKey} (h : EntV ys xs) :
    (atKey xs k = none ∧ (ys.find? fun y => decide (y.1 = k)) = none) ∨ ∃ p y, atKey xs k = some p ∧ (ys.find? fun y => decide (y.1 = k)) = some y ∧ RelV y.2.2 p.2 := by
  induction h with
  | nil => exact .inl ⟨rfl, rfl⟩
  | cons h t ih =>
    rename_i y x ys xs
    by_cases e : y.1 = k
    · have e' : x.1 = k := h.1.symm.trans e
      exact .inr ⟨x.2, y, by simp [atKey, List.find?_cons, e'], by simp [List.find?_cons, e], h.2.2⟩
    · have e' : ¬ x.1 = k := fun z => e (h.1.trans z)
      have a1 : atKey (x :: xs) k = atKey xs k := by simp [atKey, List.find?_cons, e']
      have a2 : ((y :: ys).find? fun y => decide (y.1 = k)) = ys.find? fun y => decide (y.1 = k) := by simp [List.find?_cons, e]
      rw [a1, a2]
      exact ih
theorem find_EntsIs [Wd] {F : Hp} {ys : List Ent} {kvs : List (D × D)} {k : NestedKey} {kd : D} (hk : keyOf kd = some k) (h : EntsIs F ys kvs) :
    ((ys.find? fun y => decide (y.1 = k)) = none ∧ getK kvs kd = none) ∨ ∃ y d, (ys.find? fun y => decide (y.1 = k)) = some y ∧ getK kvs kd = some d ∧ Is F y.2.2 d := by
  induction h with
  | nil => exact .inl ⟨rfl, rfl⟩
  | cons h t ih =>
    rename_i y e ys kvs
    by_cases c : y.1 = k
    · have c' : keyOf e.1 = keyOf kd := by rw [h.1, hk, c]
      exact .inr ⟨y, e.2, by simp [List.find?_cons, c], by simp [getK, List.find?_cons, c'], h.2.2.2⟩
    · have c' : ¬ keyOf e.1 = keyOf kd := fun z => c (by rw [h.1, hk] at z; exact Option.some.inj z)
      have a1 : getK (e :: kvs) kd = getK kvs kd := by simp [getK, List.find?_cons, c']
      have a2 : ((y :: ys).find? fun y => decide (y.1 = k)) = ys.find? fun y => decide (y.1 = k) := by simp [List.find?_cons, c]
      rw [a1, a2]
      exact ih
section
variable [Wd] {X : Cx} {pins : List (Addr × Obj)} {σ : L2.St} {H : Hp} {s : Shared}
/-- the key in the heap, what is found -/
theorem dct_look {a : Addr} {ys : List Ent} {o : Obj} {kvs : List (D × D)} {F : Hp} {y : V} {iv : Value} {kd : D} (I : L2.Inv X pins σ H s) (le : Same F H) (h : H a = some (dctO X.w a ys o)) (e : EntsIs F ys kvs) (hk : okKey kd = true) (iy : Is F y kd) (ry : RelV y iv) :
    ∃ (b : Addr) (k : NestedKey) (xs : List (NestedKey × Addr × Value)), iv = .ref b ∧ (nestedKind X.prog X.w).is s.heap k b ∧ (a == sysModules) = false ∧ s.heap.DictOfH (nestedKind X.prog X.w) a xs ∧
      ((atKey xs k = none ∧ getK kvs kd = none) ∨ ∃ p v d, atKey xs k = some p ∧ getK kvs kd = some d ∧ RelV v p.2 ∧ Is F v d) := by
  obtain ⟨zs, ks, ed, ek, hd⟩ := okKey_of hk
  subst ed
  cases iy with
  | tup hp z t =>
    rename_i b vs
    cases ry
    obtain ⟨lo, xs, ev, dd⟩ := Inv.dctH I h (e.mono le)
    refine ⟨b, .tup ks, xs, rfl, ⟨nested_of I _ _ _ _ (.tup (Rd.mono le hp) z (t.mono le)) rfl ek, hd⟩, lo, dd, ?_⟩
    rcases atKey_EntV (k := .tup ks) ev with ⟨a1, a2⟩ | ⟨p, y, a1, a2, a3⟩
    · rcases find_EntsIs ek e with ⟨_, b2⟩ | ⟨y', d, b1, _⟩
      · exact .inl ⟨a1, b2⟩
      · rw [a2] at b1; cases b1
    · rcases find_EntsIs ek e with ⟨b1, _⟩ | ⟨y', d, b1, b2, b3⟩
      · rw [a2] at b1; cases b1
      · rw [a2] at b1
        cases b1
        exact .inr ⟨p, _, d, a1, b2, a3, b3⟩
theorem dct_type {a : Addr} {ys : List Ent} {o : Obj} {w : World} (I : L2.Inv X pins σ H s) (h : H a = some (dctO w a ys o)) : s.TypeIs (.ref a) "dict" ∧ (∀ b, Value.ref a = .ref b → ∃ ob, s.heap.get? b = some ob ∧ ob.dict = none) := by
  obtain ⟨_, _, _, ⟨o, es, ep, ho, hx, hd, he⟩, _⟩ := (Inv.dct I h).1
  refine ⟨⟨o, ho, hx.1⟩, fun b q => ?_⟩
  cases q
  exact ⟨o, ho, hx.2.1⟩
end

/-! ### d[k] -/
/-- the dict at x read at y -/
def rDk [Wd] (w : World) : R2 := fun x y H Q => ∃ (F : Hp) (a : Addr) (ys : List Ent) (o : Obj) (kvs : List (D × D)) (k d : D), x = .ref a ∧ Same F H ∧ H a = some (dctO w a ys o) ∧ EntsIs F ys kvs ∧ okKey k = true ∧ Is F y k ∧ getK kvs k = some d ∧ ∀ v, Is F v d → Q v H
section
variable [Wd] {X : Cx}
theorem ix_dct (hu : X.A.units + 65 < cLine) : IxR X (rDk X.w) := by
  intro value slice pins s σ H x y v u Q I rx ry h hs
  obtain ⟨F, a, ys, o, kvs, k, d, rfl, le, ha, he, hk, iy, hg, q⟩ := h
  cases rx
  obtain ⟨b, kk, xs, rfl, hkey, lo, dd, hl⟩ := dct_look I le ha he hk iy ry
  have hT := (dct_type I ha).1
  rcases hl with ⟨_, hn⟩ | ⟨p, v, d', hp, hg', rv, iv⟩
  · rw [hg] at hn; cases hn
  · rw [hg] at hg'
    cases hg'
    have core : wpAny (model X.prog X.w) X.A (getItem (.ref a) (.ref b)) (EP X pins σ Q) X.xe s :=
      wpAny_getItem_heap (show X.A.units + 1 + 8 < cLine by omega) hkey dd hp ⟨v, H, I.tok _, rv, q v iv⟩
    unfold subscriptTail
    refine wpAny_bind ?_
    rw [getitemInPython_of_ne hT.not_modules]
    refine wpAny_bind (wpAny_specialOf hT PySem.F.slot_dict_getitem.lookup ?_)
    have fin : wpAny (model X.prog X.w) X.A (subscripted slice false (.ref a) (.ref b)) (fun r s₃ => wpAny (model X.prog X.w) X.A (letTemporaryGo value (.ref a) r >>= fun _ => pure r) (EP X pins σ Q) X.xe s₃) X.xe s := by
      rw [hs]
      exact wpAny_operating (wpAny_mono core (fun r s₃ h₃ => wpAny_bind (wpAny_letTemporaryGo (wpAny_pure h₃))) fun _ _ x => x)
    first
      | exact wpAny_pure (wpAny_bind fin)
      | exact wpAny_bind (wpAny_pure (wpAny_bind fin))
      | exact wpAny_bind fin
theorem no_key_O {F : Hp} {k : D} (hk : okKey k = true) : ∀ {fs : List (Str × V)} {kvs : List (D × D)}, IsO F fs kvs → getK kvs k = none
  | _, _, .nil => rfl
  | _, _, .cons (f := f) (es := es) _ t => by
    obtain ⟨xs, ks, _, ek, _⟩ := okKey_of hk
    have ih := no_key_O hk t
    unfold getK at ih ⊢
    rw [List.find?_cons]
    have : decide (keyOf (PyData.str f) = keyOf k) = false := by rw [ek]; simp [keyOf]
    rw [this]
    exact ih
/-- x[y], x a dict -/
def ixK : D → D → Option D
  | .dict kvs, k => if okKey k = true then getK kvs k else none
  | _, _ => none
theorem o_ixK (hw : Wd.w = X.w) (hu : X.A.units + 65 < cLine) : IxR X (rD ixK) := by
  intro value slice pins s σ H x y v u Q I rx ry h hs
  obtain ⟨F, a, b, d, le, ia, ib, e, q⟩ := h
  unfold ixK at e
  split at e
  · rename_i kvs
    split at e
    · rename_i hk
      have iy : Is F y b := by
        obtain ⟨xs, ks, ed, _⟩ := okKey_of hk
        subst ed
        exact ib.tupIs
      cases ia with
      | of ia =>
        cases ia with
        | dct ha hz he => exact ix_dct hu value slice pins s σ H _ y v u Q I rx ry ⟨F, _, _, _, kvs, b, d, rfl, le, by rw [← hw]; exact le _ _ ha, he.ents, hk, iy, e, fun v i => q v F H (.refl le) i⟩ hs
        | obj ha hO =>
          exfalso
          have := no_key_O (F := F) hk hO
          unfold getK at e this
          obtain ⟨xs, ks, _, ek, _⟩ := okKey_of hk
          rw [List.find?_cons, show decide (keyOf ((PyData.none, PyData.none) : D × D).1 = keyOf b) = false by rw [ek]; simp [keyOf]] at e
          rw [this] at e
          cases e
    · cases e
  · cases e
end
def dgetIR (i : Nat) (g : Rho → Res D) : Rho → Res D := dctR i fun kvs ρ => (g ρ).bind fun k => if okKey k = true then .of (getK kvs k) else .bad
def dgetR (i : Nat) (g h : Rho → Res D) : Rho → Res D := dctR i fun kvs ρ => (g ρ).bind fun k => (h ρ).bind fun d => if okKey k = true then .ok ((getK kvs k).getD d) else .bad
section
variable [Wd] {X : Cx} {A : Amb} {W : WX} {k e : Expr} {g h : Rho → Res D} {p1 pos apos cpos : Pos}
/-- x[k], x a dict of one's own in slot i -/
theorem d_dgetI (i : Nat) {x : Str} (hw : Wd.w = X.w) (hu : X.A.units + 65 < cLine) (hk : DE X A W k g) (hs : PlainIx k) (hN : X.N[i]? = some x := by rfl) (hvi : Vis X.env.scope x := by first | exact Or.inl rfl | exact Or.inr (Or.inl rfl) | exact Or.inr (Or.inr rfl))
    (hd : (x == ("__debug__" : Str)) = false := by decide) (hcd : (x == ("__classdict__" : Str)) = false := by decide) : DE X A W (.Subscript (.Name x p1) k pos) (dgetIR i g) :=
  peI (pe_ix (ix_dct hu) (pe_var hN hvi hd hcd) hk hs) fun σ H Q ⟨F, ρ, S, q⟩ => by
    unfold dgetIR at q
    obtain ⟨kvs, hr, eq⟩ := dctR_of fun z => by rw [z] at q; exact q
    rw [eq] at q
    obtain ⟨v, e1, p, ys, o, rfl, hF, h0, hp, hz, hE⟩ := S.val i _ hr
    refine ⟨_, e1, F, ρ, S, ?_⟩
    cases hf : g ρ with
    | bad => rw [hf] at q; exact q
    | ex c => rw [hf] at q; exact q
    | ok kd =>
      rw [hf] at q
      simp only [Res.bind_ok] at q
      intro y F1 H1 x1 i1
      by_cases hc : okKey kd = true
      · rw [if_pos hc] at q
        cases hg : getK kvs kd with
        | none => rw [hg] at q; exact q.elim
        | some d =>
          rw [hg] at q
          exact ⟨F1, p, ys, o, kvs, kd, d, rfl, x1.le, by rw [← hw]; exact x1.keep _ _ hp, hE.mono x1.up, hc, i1, hg, fun v i => q v F1 H1 x1 i⟩
      · rw [if_neg hc] at q; exact q.elim
/-- x.get(k, e) -/
theorem d_dget (i : Nat) {x : Str} (hw : Wd.w = X.w) (hu : X.A.units + 65 < cLine) (hk : DE X A W k g) (he : DE X A W e h) (m : M2 X (.Name x p1) "get" apos k e cpos) (hN : X.N[i]? = some x := by rfl) (hvi : Vis X.env.scope x := by first | exact Or.inl rfl | exact Or.inr (Or.inl rfl) | exact Or.inr (Or.inr rfl))
    (hd : (x == ("__debug__" : Str)) = false := by decide) (hcd : (x == ("__classdict__" : Str)) = false := by decide) : DE X A W (.Call (.Attribute (.Name x p1) "get" apos) [k, e] [] cpos) (dgetR i g h) := by
  refine ⟨fun pins s σ H Q I ⟨F, ρ, S, q⟩ => ?_⟩
  unfold dgetR at q
  obtain ⟨kvs, hr, eq⟩ := dctR_of fun z => by rw [z] at q; exact q
  rw [eq] at q
  obtain ⟨v, e1, p, ys, o, rfl, hF, h0, hp, hz, hE⟩ := S.val i _ hr
  refine wpAny_Call_method m.base m.few m.line PySem.F.plainAttrs_dict PySem.F.slot_dict_get PySem.F.type_dict_get (thn ((pe_var (pos := p1) hN hvi hd hcd).run pins s σ H (fun y H1 => y = .ref p ∧ H1 = H) I ⟨_, e1, rfl, rfl⟩) fun u s1 ⟨y, H1, I1, rx, ey, eH⟩ => ?_)
  subst ey eH
  obtain rfl : u = Value.ref p := rx
  obtain ⟨t1, t2⟩ := dct_type I1 hp
  refine ⟨t1, t2, ?_⟩
  rw [m.trees]
  refine Calls.callWith_builtin rfl (Calls.evalArgs_plain (Calls.spliced_cons (thn (hk.run pins s1 σ H1 (fun y H2 => ∃ F2 kd, Ext F H1 F2 H2 ∧ Sim A F2 H2 σ ρ ∧ Is F2 y kd ∧ match (h ρ).bind fun d => if okKey kd = true then Res.ok ((getK kvs kd).getD d) else .bad with
      | .ok d => ∀ v F' H', Ext F H1 F' H' → Is F' v d → Q v H'
      | .ex c => Pex A W F H1 σ c
      | .bad => False) I1 ⟨F, ρ, S, ?_⟩) fun iv s2 ⟨y, H2, I2, ry, F2, kd, x2, S2, iy, q2⟩ =>
    Calls.spliced_cons (thn (he.run pins s2 σ H2 (fun z H3 => ∃ F3 d, Ext F2 H2 F3 H3 ∧ Is F3 z d ∧ okKey kd = true ∧ ∀ v F' H', Ext F H1 F' H' → Is F' v ((getK kvs kd).getD d) → Q v H') I2 ⟨F2, ρ, S2, ?_⟩) fun fv s3 ⟨z, H3, I3, rz, F3, d, x3, iz, hc, q3⟩ => Calls.spliced_nil ?_))))
  · cases hf : g ρ with
    | bad => rw [hf] at q; exact q
    | ex c => rw [hf] at q; exact q
    | ok kd =>
      rw [hf] at q
      simp only [Res.bind_ok] at q
      exact fun y F' H' x' i' => ⟨F', kd, x', S.grow x', i', q⟩
  · cases hf : h ρ with
    | bad => rw [hf] at q2; exact q2
    | ex c => rw [hf] at q2; exact Pex.ext x2 q2
    | ok d =>
      rw [hf] at q2
      simp only [Res.bind_ok] at q2
      by_cases hc : okKey kd = true
      · rw [if_pos hc] at q2
        exact fun z F' H' x' i' => ⟨F', d, x', i', hc, q2⟩
      · rw [if_neg hc] at q2; exact q2.elim
  · have xx := x2.trans x3
    obtain ⟨b, kk, xs, rfl, hkey, lo, dd, hl⟩ := dct_look I3 x3.le (by rw [← hw]; exact xx.keep _ _ hp) (hE.mono xx.up) hc (iy.mono x3.up) ry
    refine call_meetsIn PySem.F.slot_dict_get dd.typeIs PySem.F.entry_dict_get (PySem.F.args_dict_get_3 _ _ _) (meetsH_dict_get_default (nestedKind X.prog X.w) p b lo fv) ⟨show X.A.units + 1 + 8 < cLine by omega, kk, xs, hkey, dd, ?_⟩
    rcases hl with ⟨h1, h2⟩ | ⟨pp, v, d', h1, h2, rv, iv⟩
    · rw [h1]
      rw [h2] at q3
      exact ⟨z, H3, I3.tok _, rz, q3 _ F3 H3 xx iz⟩
    · rw [h1]
      rw [h2] at q3
      exact ⟨v, H3, I3.tok _, rv, q3 _ F3 H3 xx iv⟩
end
end DL

/-! The data layer, part 18: for k in d; min, max of lists of data. -/
namespace DL
open PySem PySem.Spec PyProof.Rows L2

/-! ### for k in d, for a comprehension -/
def Itq (w : World) (d : Addr) (o : Obj) (ys : List Ent) : It :=
  ⟨fun i H => H d = some (dctO w d ys o) ∧ i < ys.length, fun i H x H' => H' = H ∧ ∃ y, ys[i]? = some y ∧ x = .ref y.2.1, fun i H => H d = some (dctO w d ys o) ∧ ys.length ≤ i⟩
theorem EntV.get {ys : List Ent} {xs : List (NestedKey × Addr × Value)} (h : EntV ys xs) {i : Nat} {y : Ent} (e : ys[i]? = some y) : ∃ x, xs[i]? = some x ∧ y.2.1 = x.2.1 := by
  induction h generalizing i with
  | nil => simp at e
  | cons h t ih =>
    cases i with
    | zero => simp at e; subst e; exact ⟨_, rfl, h.2.1⟩
    | succ i => obtain ⟨x, h1, h2⟩ := ih (i := i) (by simpa using e); exact ⟨x, by simpa using h1, h2⟩
section
variable {X : Cx} {pins : List (Addr × Obj)} {σ : L2.St} {H : Hp} {s : Shared}
/-- what the walk wants of the dict -/
theorem dct_walk {d : Addr} {o : Obj} {ys : List Ent} {w : World} (I : L2.Inv X pins σ H s) (h : H d = some (dctO w d ys o)) :
    (d == sysModules) = false ∧ s.heap.get? d = some o ∧ o.ExactDict ∧ ∃ es ep, o.data = .dict es ep ∧ es.size = ys.length ∧ ∀ (i : Nat) (y : Ent), ys[i]? = some y → ∃ en : DictEntry, es[i]? = some en ∧ en.key = Value.ref y.2.1 := by
  have x : dctP w d ys s.heap ∧ s.heap.get? d = some o := (I.hok d _ h).1
  obtain ⟨⟨lo, xs, ev, ⟨o', es, ep, ho, hx, hd, he⟩, _⟩, hget⟩ := x
  rw [hget] at ho
  cases ho
  have hl : ys.length = xs.length := Paired.length ev
  refine ⟨lo, hget, hx, es, ep, hd, ?_, fun i y hy => ?_⟩
  · have := congrArg List.length he
    rw [Array.length_toList, List.length_map] at this
    omega
  · obtain ⟨x, hx, e⟩ := EntV.get ev hy
    have q : es.toList[i]? = some (⟨x.1.hash w, .ref x.2.1, x.2.2⟩ : DictEntry) := by rw [he, List.getElem?_map, hx]; rfl
    rw [Array.getElem?_toList] at q
    exact ⟨_, q, by rw [e]⟩
end
section
variable {P : Program} {w : World} {K : PySem.W.Frag} {tg : Expr} {d : Addr} {o : Obj} {es : Array DictEntry} {ep : Nat} {ys : List Ent} {w0 : World}
theorem turn_q (it : Addr) (hod : o.data = .dict es ep) : Turn P w K tg (Itq w0 d o ys) [it] it (fun i h => h.IsKeyIter it d i ys.length ep) where
  mem := by simp
  obj := fun i h st b hb => by
    have e : b = it := by simpa using hb
    subst e
    obtain ⟨oi, e, c, dd⟩ := st
    exact ⟨oi, e, fun v z => by rw [dd] at z; cases z⟩
  keep := fun i h h' st k => st.at fun oi e => k it (by simp) oi e
  item := by
    intro X hP hw hK hc i pins s σ H E I hf st hg
    subst hP hw hK
    obtain ⟨hd, hi⟩ := hg
    obtain ⟨f0, f1, f2, f3, f4, f5⟩ := hf it (by simp)
    obtain ⟨hs, hgd, hx, es', ep', hdt, hsz, ent⟩ := dct_walk I hd
    obtain ⟨rfl, rfl⟩ := dict_ep hod hdt
    obtain ⟨y, hy⟩ : ∃ p, ys[i]? = some p := ⟨ys[i], List.getElem?_eq_getElem hi⟩
    obtain ⟨en, hen, hkey⟩ := ent i y hy
    refine next_key_item st hgd hdt hsz hen fun h' st' sb => ?_
    have I1 : L2.Inv X pins σ H { s with heap := h' } := I.turned (t' := s.toks) (fun b ob hb e => (sb.2 b hb).trans e) f0 f1 f3 f4 f5
    obtain ⟨oi, e, c, dd⟩ := id st'
    exact ⟨en.key, rfl, go_of (s := { s with heap := h' }) e c dd (by decide) ⟨.ref y.2.1, H, I1, hkey, ⟨rfl, y, hy, rfl⟩, st', fun b hb => (hf b hb).1⟩⟩
  done := by
    intro X hP hw hK hc i pins s σ H E I hf st hg
    subst hP hw hK
    obtain ⟨hd, hi⟩ := hg
    obtain ⟨f0, f1, f2, f3, f4, f5⟩ := hf it (by simp)
    obtain ⟨hs, hgd, hx, es', ep', hdt, hsz, ent⟩ := dct_walk I hd
    obtain ⟨rfl, rfl⟩ := dict_ep hod hdt
    exact next_key_end (I.ok.hd hc) st hgd hdt hsz hi fun h' eb => ⟨rfl, I.turned (t' := s.toks) (fun b ob hb e => eb b ob hb e) f0 f1 f3 f4 f5⟩
  self := fun A i s Q E st h => by
    refine wpAny_pyIter_slot st.typeIs F.slot_dict_keyiterator_iter (wpAny_call_entry F.slot_dict_keyiterator_iter st.typeIs F.entry_dict_keyiterator_iter ?_ (F.args_dict_keyiterator_iter_1 _))
    show wpAny _ _ (ret (.ref it)) _ _ s
    exact wpAny_pure ⟨_, rfl, "dict_keyiterator", _, st.typeIs, F.slot_dict_keyiterator_next.lookup, h⟩
end
def iQ (td : TE) : TI := fun σ H R => td σ H fun x H1 => ∃ d ys o w, x = .ref d ∧ H1 d = some (dctO w d ys o) ∧ R (Itq w d o ys) H1
section
variable {X : Cx} {tg e : Expr} {td : TE}
theorem pi_q (he : PE X e td) : PI X tg e (iQ td) := by
  refine ⟨fun pins s σ H R I h => ?_⟩
  refine thn (he.run pins s σ H _ I h) fun u s1 ⟨x, H1, I1, rx, d, ys, o, w, ex, hd, q⟩ => ?_
  subst ex
  obtain rfl : u = Value.ref d := rx
  obtain ⟨hs, hgd, hx, es, ep, hdt, hsz, ent⟩ := dct_walk I1 hd
  refine iter_keys hs hgd hx hdt (pi_one (tk := s1.toks) I1 _ (turn_q _ hdt) ⟨_, Heap.get?_push_size _ rfl, rfl, ?_⟩ q)
  rw [hsz] <;> rfl
end
def keysR (i : Nat) : Rho → Res (List D) := dctR i fun kvs _ => .ok (kvs.map (·.1))
section
variable [Wd] {X : Cx} {A : Amb} {W : WX} {tg : Expr} {pos : Pos}
theorem i_dct (i : Nat) {x : Str} (hN : X.N[i]? = some x := by rfl) (hvi : Vis X.env.scope x := by first | exact Or.inl rfl | exact Or.inr (Or.inl rfl) | exact Or.inr (Or.inr rfl)) (hd : (x == ("__debug__" : Str)) = false := by decide) (hcd : (x == ("__classdict__" : Str)) = false := by decide) :
    IH X A W tg (.Name x pos) (keysR i) := piI (pi_q (pe_var hN hvi hd hcd)) fun σ H R ⟨F, ρ, S, q⟩ => by
  unfold keysR at q
  obtain ⟨kvs, hr, eq⟩ := dctR_of fun z => by rw [z] at q; exact q
  rw [eq] at q
  obtain ⟨v, e1, p, ys, o, rfl, hF, h0, hp, hz, hE⟩ := S.val i _ hr
  have t := hE.keysIs
  have hl : ys.length = kvs.length := Paired.length hE
  refine ⟨_, e1, p, ys, o, Wd.w, rfl, hp, q (Itq Wd.w p o ys) F H (.refl S.le) (fun j F' H' hF' hl' hH => ⟨fun x hx => ?_, fun hj => ⟨hH _ _ hp, ?_⟩⟩) ?_⟩
  · obtain ⟨v, hv, iv⟩ := t.get hx
    rw [List.getElem?_map] at hv
    obtain ⟨y, hy, e⟩ := Option.map_eq_some_iff.mp hv
    refine ⟨⟨hH _ _ hp, (List.getElem?_eq_some_iff.mp hy).1⟩, fun v' H2 z => ?_⟩
    obtain ⟨rfl, y', hy', rfl⟩ := z
    rw [hy] at hy'
    cases hy'
    exact ⟨F', .refl hl', by rw [e]; exact iv.mono hF'⟩
  · rw [List.length_map] at hj; omega
  · rw [List.length_map]; omega
end

/-! ### min, max of a list -/
def fitMin (ds : List D) : Bool := allLike ds && (ds.all fun d => match d with | .none => false | _ => true) && ds.all fun d => decide (d.depth ≤ 60)
def minLD : List D → Option D
  | [.list (x :: xs)] => if fitMin (x :: xs) = true then some (PySem.W.minD x xs) else none
  | _ => none
theorem fitMin_ok {ds : List D} (h : fitMin ds = true) : PySem.W.AlikeAll ds ∧ noDctA ds = true ∧ PyData.depthAll ds ≤ 60 := by
  unfold fitMin at h
  rw [Bool.and_eq_true, Bool.and_eq_true] at h
  obtain ⟨⟨h1, h2⟩, h3⟩ := h
  refine ⟨⟨fun x hx y hy => allLike_ok h1 x hx y hy, fun x hx z => ?_⟩, allLike_noDct h1, ?_⟩
  · have := List.all_eq_true.mp h2 x hx
    rw [z] at this
    cases this
  · clear h1 h2
    induction ds with
    | nil => simp [PyData.depthAll]
    | cons x xs ih =>
      rw [List.all_cons, Bool.and_eq_true] at h3
      have a := of_decide_eq_true h3.1
      have b := ih h3.2
      simp [PyData.depthAll]
      omega
section
variable [Wd] {X : Cx} {pins : List (Addr × Obj)} {σ : L2.St} {H F : Hp} {s : Shared}
/-- the item that is read as that data is that item -/
theorem pick_ok {vs : List V} {its : List Value} {ds : List D} {as : List Addr} {i : Nat} {u : Value} {h' : Heap} {d : D} {bs : List Addr} (rv : Vals vs its) (t : IsA F vs ds) (hrs : ReadsAll s.heap its ds as) (hu : its[i]? = some u) (hr : Reads h' u d bs) (hk : ∀ b o, s.heap.get? b = some o → h'.get? b = some o) : ∃ v, RelV v u ∧ Is F v d := by
  have hl := rv.length
  have hi : i < vs.length := by have := (List.getElem?_eq_some_iff.mp hu).1; omega
  obtain ⟨u', hu', ru⟩ := rv.get (i := i) (x := vs[i]) (List.getElem?_eq_getElem hi)
  rw [hu] at hu'
  cases hu'
  obtain ⟨d', hd', id'⟩ := t.get' (List.getElem?_eq_getElem hi)
  have key : ∀ {us : List Value} {es : List D} {cs : List Addr} {j : Nat} {w : Value} {e : D}, ReadsAll s.heap us es cs → us[j]? = some w → es[j]? = some e → ∃ bs, Reads s.heap w e bs := by
    intro us es cs j w e r
    induction es generalizing us cs j with
    | nil => intro _ h; simp at h
    | cons e0 es ih =>
      cases r with
      | cons h1 h2 =>
        intro h3 h4
        cases j with
        | zero => simp at h3 h4; subst h3 h4; exact ⟨_, h1⟩
        | succ j => exact ih h2 (by simpa using h3) (by simpa using h4)
  obtain ⟨bs', hr'⟩ := key hrs hu hd'
  obtain ⟨e, _⟩ := PyProof.Rows.reads_det (fun b o h _ => hk b o h) hr' hr
  exact ⟨_, ru, by rw [e]; exact id'⟩
end
section
variable [Wd] {X : Cx}
theorem c_minL (hu : X.A.units + 64 < cLine) (hc : X.calm = true) : CallR X (.builtin "min") (cD minLD) := by
  intro pins s σ H xs us Q I r h
  obtain ⟨F, as, d, le, ia, e, q⟩ := h
  unfold minLD at e
  split at e
  · rename_i x0 xs0
    split at e
    · rename_i hf
      cases e
      obtain ⟨hal, hnd, hdp⟩ := fitMin_ok hf
      obtain ⟨v, rfl, i⟩ := ia.one
      obtain ⟨p, vs, rfl, hp, z, t⟩ := i.list le
      obtain ⟨its, rv, hl, hz⟩ := I.list (.inl hp)
      rw [Vals.ref1 r]
      obtain ⟨rs, hrs⟩ := Dp.readsAll I _ vs its ((t.mono le).dp hnd) rv
      refine PySem.W.min_list_data (I.ok.hd hc) hl.isList (vs := its.toArray) (by simpa using hrs) hal (by omega) fun j u h' tk bs hv hr hk => ?_
      obtain ⟨w, rw', iw⟩ := pick_ok rv t hrs (by simpa using hv) hr hk
      exact ⟨w, H, I.kept (t' := tk) hk, rw', q w F H (.refl le) iw⟩
    · cases e
  · cases e
end
/-- max(xs, default=d) -/
def maxDefR (g h : Rho → Res D) : Rho → Res D := fun ρ => (g ρ).bind fun a => (h ρ).bind fun d => match a with
  | .list ds => if fitMin ds = true then (match ds with
    | [] => .ok d
    | x :: xs => .ok (PySem.W.maxD x xs)) else .bad
  | _ => .bad
section
variable [Wd] {X : Cx} {A : Amb} {W : WX} {e e2 : Expr} {g h : Rho → Res D} {p pos kp : Pos}
theorem d_maxDef (hu : X.A.units + 64 < cLine) (hc : X.calm = true) (hm : X.mg "max" = none) (ha : DE X A W e g) (hk : DE X A W e2 h) (hg : Gl X "max" := by rfl) (hs : starEach [e] X.env = (false, eval e X.env) :: starEach [] X.env := by rfl)
    (he : backTo pos (starEach [e] X.env) = (false, eval e X.env) :: backTo pos (starEach [] X.env) := by rfl) (hpl : (backTo pos (starEach [e] X.env)).any (·.1) = false := by rfl)
    (hall : (backToKw pos (keywordEach [⟨some "default", e2, kp⟩] X.env)).all (·.1.isSome) = true := by rfl) (hnone : (backToKw pos (keywordEach [⟨some "default", e2, kp⟩] X.env)).any (·.1.isNone) = false := by rfl)
    (hks : (backToKw pos (keywordEach [⟨some "default", e2, kp⟩] X.env)).filterMap (·.1) = [Str.ofString "default"] := by rfl) :
    DE X A W (.Call (.Name "max" p) [e] [⟨some "default", e2, kp⟩] pos) (maxDefR g h) := by
  have cr : CallRK X (.builtin "max") [Str.ofString "default"] (fun xs zs H Q => ∃ (F : Hp) (v z : V) (ds : List D) (d0 : D), Same F H ∧ xs = [v] ∧ zs = [z] ∧ Is F v (.list ds) ∧ Is F z d0 ∧ fitMin ds = true ∧
      ∀ w, Is F w (match ds with | [] => d0 | x :: xs => PySem.W.maxD x xs) → Q w H) := by
    intro pins s σ H xs zs us ws Q I r1 r2 hq
    obtain ⟨F, v, z, ds, d0, le, rfl, rfl, iv, iz, hf, q⟩ := hq
    obtain ⟨hal, hnd, hdp⟩ := fitMin_ok hf
    obtain ⟨uz, rfl, rz⟩ := vals1 r2
    cases iv with
    | lst hp z0 t =>
      obtain ⟨its, rv, hl, hz⟩ := I.list (.inl (Rd.mono le hp))
      rw [Vals.ref1 r1]
      obtain ⟨rs, hrs⟩ := Dp.readsAll I _ _ its ((t.mono le).dp hnd) rv
      refine PySem.W.max_list_default (I.ok.hd hc) hl.isList (vs := its.toArray) (by simpa using hrs) hal (by omega) (fun e0 h' tk hk => ?_) fun y ys j u h' tk bs e0 hv hr hk => ?_
      · subst e0
        exact ⟨z, H, I.kept (t' := tk) hk, rz, q z iz⟩
      · subst e0
        obtain ⟨w, rw', iw⟩ := pick_ok rv t hrs (by simpa using hv) hr hk
        exact ⟨w, H, I.kept (t' := tk) hk, rw', q w iw⟩
  refine peI (pe_callBK cr hg hm (by decide +kernel) (pa_cons ha pa_nil hs) (pk_cons hk pk_nil) (by decide) (by decide) he hpl hall hnone hks) fun σ H Q ⟨F, ρ, S, q⟩ => ⟨F, ρ, S, ?_⟩
  unfold maxDefR at q
  cases hf : g ρ with
  | bad => rw [hf] at q; exact q
  | ex c => rw [hf] at q; exact q
  | ok a =>
    rw [hf] at q
    simp only [Res.bind_ok] at q
    intro v F1 H1 x1 i1
    refine ⟨F1, ρ, S.grow x1, ?_⟩
    cases hh : h ρ with
    | bad => rw [hh] at q; exact q
    | ex c => rw [hh] at q; exact q.ext x1
    | ok d =>
      rw [hh] at q
      simp only [Res.bind_ok] at q
      intro z F2 H2 x2 i2
      cases a with
      | list ds =>
        simp only at q
        by_cases hc : fitMin ds = true
        · rw [if_pos hc] at q
          refine ⟨F2, v, z, ds, d, x2.le, rfl, rfl, i1.mono x2.up, i2, hc, fun w iw => ?_⟩
          cases ds with
          | nil => exact q w F2 H2 (x1.trans x2) iw
          | cons x xs => exact q w F2 H2 (x1.trans x2) iw
        · rw [if_neg hc] at q; exact q.elim
      | _ => exact q.elim
end
end DL

/-! The data layer, part 19: y = [..] that is written later. -/
namespace DL
open PySem PySem.Spec PyProof.Rows L2
section
variable [Wd] {X : Cx} {A : Amb} {W : WX} {pos : Pos}
/-- name = [..] on one line, to be written later -/
theorem s_setLcO (i : Nat) {y : Str} {py : Pos} {elt tg iter : Expr} {ifs : List Expr} {scope : Scope} {own : List (Str × Nat)} {spos : Pos} {fi : Rho → Res (List D)} {t : Tg} {g : TG} {c : Rho → Res Bool} {e : Rho → Res D} (hc : X.calm = true) (hN : X.N.Nodup)
    (hsw : swapsWith (.ListComp elt [⟨tg, iter, ifs, 0⟩] scope pos) (some (.Name y py)) spos.line X.env = pure true) (hi : IH X A W tg iter fi) (ok : BlkOk X.N X.env.scope scope own)
    (hg : ∀ (s : Shared) (H : Hp) (C : Addr) (cl : List (Str × Addr)) (fp : List Addr), PG (X.blk s H scope (compEnvC scope cl C X.env) fp) tg g) (hs : TgSim t g)
    (ht : ∀ (s : Shared) (H : Hp) (C : Addr) (cl : List (Str × Addr)) (fp : List Addr), DTs (X.blk s H scope (compEnvC scope cl C X.env) fp) A W0 ifs c)
    (he : ∀ (s : Shared) (H : Hp) (C : Addr) (cl : List (Str × Addr)) (fp : List Addr), DE (X.blk s H scope (compEnvC scope cl C X.env) fp) A W0 elt e)
    (hy : X.N[i]? = some y := by rfl) (hyl : X.env.scope.names.lookup y = some .local := by rfl) (hv : ∀ i ∈ t.at_, i ∈ own.map (·.2) := by decide) (hf : ∀ x, foldedSetIterable iter X.env x = pure x := by intro _; rfl) :
    DS X A W (.Assign [.Name y py] (.ListComp elt [⟨tg, iter, ifs, 0⟩] scope pos) spos) (setO i (lc fi t c e (own.map (·.2)))) :=
  psI (ps_setLc hc hN hy hyl hsw hi ok hg ht he hf) fun E σ H q => lc_ok hs hv (Q := fun x H1 => gName i x σ H1 E.nx) (by
    obtain ⟨F, ρ, S, q⟩ := q
    refine ⟨F, ρ, S, ?_⟩
    unfold setO thenS at q
    cases hl : lc fi t c e (own.map (·.2)) ρ with
    | bad => rw [hl] at q; exact q
    | ex c => rw [hl] at q; exact q.pex S
    | ok ds =>
      rw [hl] at q
      intro p vs F' H' x h1 h2 h3 h4 h5
      exact q _ F' H' ((S.grow x).setO ⟨p, vs, rfl, h1, Same.free S.ext.keep h2, h3, h4, h5⟩ fun j b _ e o => S.new h2 j b e o) x.up)
end
end DL

/-! The data layer, part 20: the program's own exceptions: what the written part says of their classes; raise. -/
namespace DL
open PySem PySem.Spec PyProof.Rows L2

def subX (x y : String) : Bool := x == y || y == "TestError"
def gaS (K : PySem.W.Frag) (x : String) : Addr := He.ga K (Str.ofString x)
def clsB (K : PySem.W.Frag) (x : String) : Bool :=
  He.eqO (PySem.W.nsIn K mainGlobals (Str.ofString x)) (some (some (.ref (gaS K x)))) && (PySem.W.keepIn K (.ref (gaS K x)) && (decide (PySem.W.subIn K (.ref (gaS K x)) (.type "BaseException") = some true) && (decide (PySem.W.typeIn K (.ref (gaS K x)) = some (.type "type")) && (
    decide (PySem.W.findIn K (.ref (gaS K x)) "__getattribute__" = some (some (.builtin "BaseException.__getattribute__"))) && (decide (PySem.W.findIn K (.ref (gaS K x)) "__getattr__" = some none) && ((PySem.W.clsIn K (gaS K x)).isSome &&
    (decide (PySem.W.findIn K (.ref (gaS K x)) "__class__" = some (some (.builtin "object.__class__"))) && (decide (PySem.W.specialIn K (.builtin "object.__class__") "__get__" = some (some (.builtin "getset_descriptor.__get__"))) && (decide (PySem.W.takesIn K (.builtin "object.__class__") = some true) && (
    decide (PySem.W.mroIn K (gaS K x) (.type "object") = some true) && decide (PySem.W.kitOne K (.ref (gaS K x)) (.type "ValueError") = some true)))))))))))
structure ClsX (K : PySem.W.Frag) (x : String) : Prop where
  g : PySem.W.nsIn K mainGlobals (Str.ofString x) = some (some (.ref (gaS K x)))
  k : PySem.W.keepIn K (.ref (gaS K x)) = true
  b : PySem.W.subIn K (.ref (gaS K x)) (.type "BaseException") = some true
  t : PySem.W.typeIn K (.ref (gaS K x)) = some (.type "type")
  ga : PySem.W.findIn K (.ref (gaS K x)) "__getattribute__" = some (some (.builtin "BaseException.__getattribute__"))
  gt : PySem.W.findIn K (.ref (gaS K x)) "__getattr__" = some none
  cl : (PySem.W.clsIn K (gaS K x)).isSome = true
  fc : PySem.W.findIn K (.ref (gaS K x)) "__class__" = some (some (.builtin "object.__class__"))
  sg : PySem.W.specialIn K (.builtin "object.__class__") "__get__" = some (some (.builtin "getset_descriptor.__get__"))
  tk : PySem.W.takesIn K (.builtin "object.__class__") = some true
  mo : PySem.W.mroIn K (gaS K x) (.type "object") = some true
  ve : PySem.W.kitOne K (.ref (gaS K x)) (.type "ValueError") = some true
theorem clsB_ok {K : PySem.W.Frag} {x : String} (h : clsB K x = true) : ClsX K x := by
  unfold clsB at h
  obtain ⟨h1, h⟩ := He.ba h
  obtain ⟨h2, h⟩ := He.ba h
  obtain ⟨h3, h⟩ := He.ba h
  obtain ⟨h4, h⟩ := He.ba h
  obtain ⟨h5, h⟩ := He.ba h
  obtain ⟨h6, h⟩ := He.ba h
  obtain ⟨h7, h⟩ := He.ba h
  obtain ⟨h8, h⟩ := He.ba h
  obtain ⟨h9, h⟩ := He.ba h
  obtain ⟨h10, h⟩ := He.ba h
  obtain ⟨h11, h12⟩ := He.ba h
  exact ⟨He.eqO_ok h1, h2, of_decide_eq_true h3, of_decide_eq_true h4, of_decide_eq_true h5, of_decide_eq_true h6, h7, of_decide_eq_true h8, of_decide_eq_true h9, of_decide_eq_true h10, of_decide_eq_true h11, of_decide_eq_true h12⟩
def pairB (K : PySem.W.Frag) (x y : String) : Bool := decide (PySem.W.exmOne K (.ref (gaS K x)) (.ref (gaS K y)) = some (subX x y)) && decide (PySem.W.kitOne K (.ref (gaS K x)) (.ref (gaS K y)) = some (subX x y))
def plainB (K : PySem.W.Frag) (x : String) : Bool := PySem.W.excIn K (gaS K x) He.veBase "ValueError.__new__"
/-- an exception class over ValueError, its own __init__ or not -/
def oexB (K : PySem.W.Frag) (C : Addr) : Bool := match K.lookup C with
  | some ⟨.type "type", _, .cls cd, sl⟩ => (match cd.mro, sl.toList with
    | .ref C' :: bm, [_, _, _, _, some (.builtin n), _] => C' == C && n == "ValueError.__new__" && !cd.hasDel && cd.hasDict && PySem.HandSPX.refsVE bm
    | _, _ => false)
  | _ => false
theorem oexB_ok {K : PySem.W.Frag} {C : Addr} (q : oexB K C = true) : ∃ nm q N bs bm sn sub ab col dd k0 k1 k2 k3 k5, K.lookup C = some (excClassObj nm q C N bs bm true sn sub ab col dd k0 k1 k2 k3 k5 "ValueError.__new__") ∧ PySem.HandSPX.refsVE bm = true := by
  unfold oexB at q
  split at q
  · rename_i dd cd sl ho
    split at q
    · rename_i C' bm k0 k1 k2 k3 n k5 hm hs
      simp only [Bool.and_eq_true, beq_iff_eq, Bool.not_eq_true'] at q
      obtain ⟨⟨⟨⟨rfl, rfl⟩, hdel⟩, hdct⟩, hbm⟩ := q
      obtain ⟨nm, bs, mro, ns, qn, hd, sn, sub, ab, col, del⟩ := cd
      dsimp only at hm hdel hdct
      subst hm hdel hdct
      have hsl : sl = #[k0, k1, k2, k3, some (.builtin "ValueError.__new__"), k5] := by
        obtain ⟨l⟩ := sl
        simp only at hs
        rw [hs]
      subst hsl
      exact ⟨nm, qn, ns, bs, bm, sn, sub, ab, col, dd, k0, k1, k2, k3, k5, ho, hbm⟩
    · cases q
  · cases q
/-- BadTests: its __init__, its base's -/
def badB (K : PySem.W.Frag) : Bool :=
  oexB K (gaS K "BadTests") && (decide (PySem.W.findIn K (.ref (gaS K "BadTests")) "__setattr__" = some (some (.builtin "object.__setattr__"))) && (decide (PySem.W.findIn K (.ref (gaS K "BadTests")) "at" = some none) && (
    decide (PySem.W.findIn K (.ref (gaS K "BadTests")) "__init__" = some (some (.ref (He.ma K (gaS K "BadTests") "__init__")))) && (decide (PySem.W.typeIn K (.ref (He.ma K (gaS K "BadTests") "__init__")) = some (.type "function")) && (
    PySem.W.hasDictIn K (gaS K "BadTests") && (decide (PySem.W.specialIn K (.ref (gaS K "TestError")) "__getattribute__" = some (some (.builtin "type.__getattribute__"))) && (PySem.W.readsIn K (gaS K "TestError") (.type "type") &&
    (match PySem.W.findCls K (.ref (gaS K "TestError")) (.type "type") "__init__" with
      | some (.val (.builtin n)) => n == "ValueError.__init__"
      | _ => false))))))))
structure BadX (K : PySem.W.Frag) : Prop where
  cls : ∃ nm q N bs bm sn sub ab col dd k0 k1 k2 k3 k5, K.lookup (gaS K "BadTests") = some (excClassObj nm q (gaS K "BadTests") N bs bm true sn sub ab col dd k0 k1 k2 k3 k5 "ValueError.__new__") ∧ PySem.HandSPX.refsVE bm = true
  sa : PySem.W.findIn K (.ref (gaS K "BadTests")) "__setattr__" = some (some (.builtin "object.__setattr__"))
  no : PySem.W.findIn K (.ref (gaS K "BadTests")) "at" = some none
  ini : PySem.W.findIn K (.ref (gaS K "BadTests")) "__init__" = some (some (.ref (He.ma K (gaS K "BadTests") "__init__")))
  fn : PySem.W.typeIn K (.ref (He.ma K (gaS K "BadTests") "__init__")) = some (.type "function")
  hd : PySem.W.hasDictIn K (gaS K "BadTests") = true
  sg : PySem.W.specialIn K (.ref (gaS K "TestError")) "__getattribute__" = some (some (.builtin "type.__getattribute__"))
  rd : PySem.W.readsIn K (gaS K "TestError") (.type "type") = true
  vi : PySem.W.findCls K (.ref (gaS K "TestError")) (.type "type") "__init__" = some (.val (.builtin "ValueError.__init__"))
theorem badB_ok {K : PySem.W.Frag} (h : badB K = true) : BadX K := by
  unfold badB at h
  obtain ⟨h1, h⟩ := He.ba h
  obtain ⟨h2, h⟩ := He.ba h
  obtain ⟨h3, h⟩ := He.ba h
  obtain ⟨h4, h⟩ := He.ba h
  obtain ⟨h5, h⟩ := He.ba h
  obtain ⟨h6, h⟩ := He.ba h
  obtain ⟨h7, h⟩ := He.ba h
  obtain ⟨h8, h9⟩ := He.ba h
  refine ⟨oexB_ok h1, of_decide_eq_true h2, of_decide_eq_true h3, of_decide_eq_true h4, of_decide_eq_true h5, h6, of_decide_eq_true h7, h8, ?_⟩
  revert h9
  cases PySem.W.findCls K (.ref (gaS K "TestError")) (.type "type") "__init__" with
  | none => intro h; cases h
  | some f =>
    cases f with
    | get _ _ _ _ => intro h; cases h
    | val v =>
      cases v with
      | builtin n =>
        intro h
        have : n = "ValueError.__init__" := beq_iff_eq.mp h
        rw [this]
      | _ => intro h; cases h
def exB (ns : List String) (K : PySem.W.Frag) : Bool := (ns.all fun x => clsB K x && ns.all fun y => pairB K x y) && ((ns.all fun x => x == "BadTests" || plainB K x) && (!ns.contains "BadTests" || badB K))
/-- the exceptions that fly -/
def zOf (K : PySem.W.Frag) (ns : List String) : String → Addr → Prop := fun s C => s ∈ ns ∧ C = gaS K s
/-- all of it -/
structure ExK (K : PySem.W.Frag) (mg : Str → Option Value) (ns : List String) : Prop where
  mg : ∀ x ∈ ns, mg (Str.ofString x) = some (.ref (gaS K x))
  cls : ∀ x ∈ ns, ClsX K x
  exm : ∀ x ∈ ns, ∀ y ∈ ns, PySem.W.exmOne K (.ref (gaS K x)) (.ref (gaS K y)) = some (subX x y)
  kit : ∀ x ∈ ns, ∀ y ∈ ns, PySem.W.kitOne K (.ref (gaS K x)) (.ref (gaS K y)) = some (subX x y)
  pl : ∀ x ∈ ns, x ≠ "BadTests" → PySem.W.excIn K (gaS K x) He.veBase "ValueError.__new__" = true
  bad : "BadTests" ∈ ns → BadX K
theorem exB_ok {K : PySem.W.Frag} {h : Heap} {mg : Str → Option Value} {ns : List String} (X : K.In h) (G : h.Ns mainGlobals mg) (e : exB ns K = true) : ExK K mg ns := by
  unfold exB at e
  obtain ⟨h1, h⟩ := He.ba e
  obtain ⟨h2, h3⟩ := He.ba h
  have c1 : ∀ x ∈ ns, ClsX K x ∧ ∀ y ∈ ns, pairB K x y = true := fun x hx => by
    obtain ⟨a, b⟩ := He.ba (List.all_eq_true.mp h1 x hx)
    exact ⟨clsB_ok a, fun y hy => List.all_eq_true.mp b y hy⟩
  refine ⟨fun x hx => PySem.W.mg_of X G (c1 x hx).1.g, fun x hx => (c1 x hx).1, fun x hx y hy => ?_, fun x hx y hy => ?_, fun x hx hn => ?_, fun hb => ?_⟩
  · exact of_decide_eq_true (He.ba ((c1 x hx).2 y hy)).1
  · exact of_decide_eq_true (He.ba ((c1 x hx).2 y hy)).2
  · have := List.all_eq_true.mp h2 x hx
    rcases (Bool.or_eq_true _ _).mp this with h | h
    · exact absurd (beq_iff_eq.mp h) hn
    · exact h
  · rcases (Bool.or_eq_true _ _).mp h3 with h | h
    · rw [List.contains_iff_mem.mpr hb] at h; cases h
    · exact badB_ok h

/-! ### raise X("..") -/
section
variable [Wd] {X : Cx} {A : Amb} {W : WX} {pos : Pos}
theorem s_raise (c : String) {m : Str} {j : Nat} {p p2 pos' : Pos} (hc : X.calm = true) {ns : List String} (tk : Takes X W) (T : ExK X.K X.mg ns) (hZ : A.Z = zOf X.K ns) (hm : c ∈ ns := by decide) (hn : c ≠ "BadTests" := by decide) (hg : Gl X (Str.ofString c) := by rfl) (hdb : ((Str.ofString c) == ("__debug__" : Str)) = false := by decide) :
    DS X A W (.Raise (some (.Call (.Name (Str.ofString c) p) [.Constant (.str m) j p2] [] pos')) none pos) (raiseS c) :=
  psI (ps_raise hc tk (pmk_own PySem.F.excBase_ValueError (T.pl c hm hn) (T.mg c hm) (T.cls c hm).k (raises_own (T.cls c hm).b (T.cls c hm).t) hg hdb)) fun E σ H ⟨F, ρ, S, h⟩ =>
    h σ (.ref (gaS X.K c)) none F H S.ext (Same.refl _) (S.len.trans S.num) ⟨_, by rw [hZ]; exact ⟨hm, rfl⟩, rfl, rfl⟩
end

/-! ### TestError.__init__(self, ..) -/
section
variable {X : Cx} {x : Str} {C : Addr} {e : Expr} {es : List Expr} {ta : TA} {p1 p2 pos : Pos}
theorem pe_cinit {pl : Sem Bool} (hg : Gl X x) (hm : X.mg x = some (.ref C)) (sg : PySem.W.specialIn X.K (.ref C) "__getattribute__" = some (some (.builtin "type.__getattribute__"))) (rd : PySem.W.readsIn X.K C (.type "type") = true)
    (vV : PySem.W.findCls X.K (.ref C) (.type "type") "__init__" = some (.val (.builtin "ValueError.__init__"))) (ha : PA X (e :: es) ta) (hdb : (x == ("__debug__" : Str)) = false := by decide)
    (hc : eval (.Call (.Attribute (.Name x p1) "__init__" p2) (e :: es) [] pos) X.env = (do
      let ov ← eval (.Name x p1) X.env
      standAt p2.atName
      let (f, first) ← holding [ov] (getMethod ov "__init__" pl)
      callWith pos f first (backTo pos (starEach (e :: es) X.env)) (backToKw pos (keywordEach [] X.env))) := by rfl)
    (he : starEach (e :: es) X.env = (false, eval e X.env) :: starEach es X.env := by rfl) (hpl : (backTo pos (starEach es X.env)).any (·.1) = false := by rfl) :
    PE X (.Call (.Attribute (.Name x p1) "__init__" p2) (e :: es) [] pos) (tVeI X.K ta) := by
  refine ⟨fun pins s σ H Q I h => ?_⟩
  refine PySem.W.methodCall_KW (ld_glob I hg hm ?_ hdb) hc
  refine PySem.W.method_cls I.kIn sg (PySem.W.cls_value I.kIn rd vV (by decide +kernel) ?_)
  show wpAny _ _ (callWith pos (Value.builtin "ValueError.__init__") [] (backTo pos (starEach (e :: es) X.env)) []) _ _ _
  refine PyProof.Rows.callWith_method1 (thn (ha.run pos pins _ σ H _ (I.tok _) h) fun us s1 ⟨vs, H1, I1, r1, a, C, ws, ev, hl, T, ea, q⟩ => ?_) he hpl
  subst ev
  cases r1 with
  | @cons _ u0 _ ur ra rw' =>
    obtain rfl : u0 = Value.ref a := ra
    have hlen : ur.length ≤ sizeLine := by
      rw [← Paired.length rw', sizeLine_eq]
      omega
    exact oinit_ok T I1 ea hlen fun s' J => ⟨.non, H1, J, rfl, q⟩
end
end DL

/-! The data layer, part 21: raise BadTests(..); try .. except; what a caught exception is asked. -/
namespace DL
open PySem PySem.Spec PyProof.Rows L2

/-! ### BadTests(text, at) -/
/-- its __init__ keeps this -/
def spBad (K : PySem.W.Frag) : Sp := fun vs H Q _ => ∃ (a : Addr) (m : Str) (n : V), vs = [.ref a, .str m, n] ∧ H a = some (exo a (gaS K "BadTests") none) ∧
  ∀ d, H d = none → d ≠ a → Q .non (upd (upd H d (exd d [(("at" : Str), n)])) a (exo a (gaS K "BadTests") (some d)))
theorem ExK.oex {K : PySem.W.Frag} {mg : Str → Option Value} {ns : List String} (T : ExK K mg ns) (hb : "BadTests" ∈ ns) : OexC K (gaS K "BadTests") :=
  ⟨(T.bad hb).cls, (T.bad hb).sa, (T.cls "BadTests" hb).b, (T.cls "BadTests" hb).t, (T.cls "BadTests" hb).k⟩
/-- the __init__ as it stands -/
structure BadI (P : Program) (w : World) (K : PySem.W.Frag) (mg : Str → Option Value) (base : Heap) (k : Nat) : Prop where
  ex : ∃ fd, FnOk P w K mg base (L2.CX P w) k (He.ma K (gaS K "BadTests") "__init__") fd ["self", "text", "at"] (spBad K) ∧ Binds K fd ["self", "text", "at"] []
def raiseB (f : Rho → Res D) : Rho → SO := thenS f fun _ d => match d with
  | .int n => .ex ⟨"BadTests", some n⟩
  | _ => .bad
section
variable [Wd] {X : Cx} {A : Amb} {W : WX} {pos : Pos}
theorem s_raiseB {k : Nat} {ns : List String} {m : Str} {j : Nat} {p p2 pos' : Pos} {e : Expr} {f : Rho → Res D} (hc : X.calm = true) (tk : Takes X W) (T : ExK X.K X.mg ns) (I : BadI X.prog X.w X.K X.mg X.base k) (hr : Room (k + 1) X.A) (hZ : A.Z = zOf X.K ns) (h : DE X A W e f) (hbt : "BadTests" ∈ ns := by decide) (hg : Gl X "BadTests" := by rfl)
    (hs : starEach [e] X.env = (false, eval e X.env) :: starEach [] X.env := by rfl) (he : starEach [.Constant (.str m) j p2, e] X.env = (false, eval (.Constant (.str m) j p2) X.env) :: starEach [e] X.env := by rfl) (hpl : (backTo pos' (starEach [e] X.env)).any (·.1) = false := by rfl) :
    DS X A W (.Raise (some (.Call (.Name "BadTests" p) [.Constant (.str m) j p2, e] [] pos')) none pos) (raiseB f) := by
  obtain ⟨fd, F1, hb⟩ := I.ex
  exact psI (ps_raise hc tk (pmk_oex (T.oex hbt) (T.bad hbt).ini (T.bad hbt).fn F1 hr hb .nil (passes_call tk fun _ _ _ _ z => z.elim) hg (T.mg "BadTests" hbt) (pa_cons pe_str (pa_cons h pa_nil hs) he) (by decide) he hpl)) fun E σ H ⟨F, ρ, S, q⟩ => ⟨F, ρ, S, by
    unfold raiseB thenS at q
    cases hf : f ρ with
    | bad => rw [hf] at q; exact q
    | ex c => rw [hf] at q; exact Po.pex (E := E) S q
    | ok d =>
      rw [hf] at q
      intro v F1 H1 x1 i1
      cases d with
      | int n =>
        cases i1
        refine ⟨by show 2 ≤ 1000; decide, fun a ha => ⟨a, m, .int n, rfl, upd_same, fun d hd hda => ?_⟩⟩
        have hd1 : H1 d = none := by rw [upd_ne hda] at hd; exact hd
        refine ⟨rfl, d, [(("at" : Str), .int n)], upd_same, by rw [upd_ne hda, upd_same], hd1, ?_⟩
        have eH : upd (del (upd (upd (upd H1 a (exo a (gaS X.K "BadTests") none)) d (exd d [(("at" : Str), V.int n)])) a (exo a (gaS X.K "BadTests") (some d))) a) d (.xd [(("at" : Str), V.int n)]) = upd H1 d (.xd [(("at" : Str), V.int n)]) := by
          funext b
          by_cases hbd : b = d
          · rw [hbd, upd_same, upd_same]
          · rw [upd_ne hbd, upd_ne hbd]
            by_cases hba : b = a
            · rw [hba, del_same, ha]
            · rw [del_ne hba, upd_ne hba, upd_ne hbd, upd_ne hba]
        rw [eH]
        exact (show Po A W E F (.ex ⟨"BadTests", some n⟩) from q) σ (.ref (gaS X.K "BadTests")) (some d) (upd F1 d (.xd [(("at" : Str), .int n)])) _ (S.ext.trans (x1.trans (.laid x1.le hd1))) (x1.trans (.laid x1.le hd1)).up (S.len.trans S.num)
          ⟨_, by rw [hZ]; exact ⟨hbt, rfl⟩, rfl, d, rfl, upd_same⟩
      | _ => exact q.elim⟩
end

/-! ### try .. except -/
/-- the slots at the start of the except suite: e's alone is known -/
def sut (n i : Nat) : Rho := (List.replicate n none).set i (some .raw)
/-- what is no data is forgotten -/
def scrub (ρ : Rho) : Rho := ρ.map fun o => match o with
  | some .raw => none
  | o => o
def tryS (n i : Nat) (g : Rho → SO) (k : Exc → Option (Rho → SO)) : Rho → SO := fun ρ => match g ρ with
  | .ex c => match k c with
    | none => .ex c
    | some s => match s (sut n i) with
      | .nx ρ' => .nx (scrub (ρ'.set i none))
      | .rt d => .rt d
      | .ro d => .ro d
      | _ => .bad
  | o => o
/-- .. without a name -/
def tryN (n : Nat) (g : Rho → SO) (k : Exc → Option (Rho → SO)) : Rho → SO := fun ρ => match g ρ with
  | .ex c => match k c with
    | none => .ex c
    | some s => match s (List.replicate n none) with
      | .nx ρ' => .nx (scrub ρ')
      | .rt d => .rt d
      | .ro d => .ro d
      | _ => .bad
  | o => o
theorem none_at {α : Type} {n j : Nat} {b : α} (h : (List.replicate n (none : Option α))[j]? = some (some b)) : False := by
  rw [List.getElem?_replicate] at h
  split at h <;> cases h
theorem blank_sim [Wd] {A : Amb} {F H : Hp} {σ : L2.St} (le : Same F H) (x : Ext A.F0 A.H0 F H) (hl : σ.length = A.n) : Sim A F H σ (List.replicate A.n none) :=
  ⟨x, by rw [hl, List.length_replicate], List.length_replicate, fun j b e => (none_at e).elim, fun j l b c v _ e _ _ _ _ => (none_at e).elim⟩
theorem sut_sim [Wd] {A : Amb} {F H : Hp} {σ : L2.St} {i : Nat} (x : Ext A.F0 A.H0 F H) (hl : σ.length = A.n) : Sim A F H (σ.set i (some A.x)) (sut A.n i) := by
  have at_ : ∀ {j : Nat} {b : B}, (sut A.n i)[j]? = some (some b) → j = i ∧ i < A.n ∧ b = .raw := fun {j b} e => by
    unfold sut at e
    by_cases hj : i = j
    · subst hj
      by_cases hi : i < A.n
      · rw [List.getElem?_set_self (by rw [List.length_replicate]; exact hi)] at e
        cases e
        exact ⟨rfl, hi, rfl⟩
      · rw [List.getElem?_eq_none (by simpa using hi)] at e; cases e
    · rw [List.getElem?_set_ne hj] at e
      exact (none_at e).elim
  refine ⟨x, by simp [sut, hl], by simp [sut], fun j b e => ?_, fun j l b c v _ e _ o _ => ?_⟩
  · obtain ⟨rfl, hi, rfl⟩ := at_ e
    exact ⟨A.x, by rw [List.getElem?_set_self (by rw [hl]; exact hi)], rfl⟩
  · obtain ⟨_, _, rfl⟩ := at_ e
    cases o
theorem back_sim [Wd] {A A' : Amb} {F H : Hp} {σ : L2.St} {ρ : Rho} (x : Ext A.F0 A.H0 A'.F0 A'.H0) (hn : A'.n = A.n) (S : Sim A' F H σ ρ) : Sim A F H σ (scrub ρ) := by
  have old : ∀ {j : Nat} {b : B}, (scrub ρ)[j]? = some (some b) → ρ[j]? = some (some b) ∧ b ≠ .raw := fun {j b} e => by
    unfold scrub at e
    rw [List.getElem?_map] at e
    obtain ⟨o, ho, e⟩ := Option.map_eq_some_iff.mp e
    cases o with
    | none => cases e
    | some c =>
      cases c with
      | raw => cases e
      | d y => cases e; exact ⟨ho, fun z => by cases z⟩
      | own y => cases e; exact ⟨ho, fun z => by cases z⟩
      | dct y => cases e; exact ⟨ho, fun z => by cases z⟩
  refine ⟨x.trans S.ext, by rw [S.len]; simp [scrub], by rw [← hn, ← S.num]; simp [scrub], fun j b e => ?_, fun j l b c v hjl e1 e2 o1 o2 e3 e4 => S.sep j l b c v hjl (old e1).1 (old e2).1 o1 o2 e3 e4⟩
  obtain ⟨e1, e2⟩ := old e
  obtain ⟨v, h1, h2⟩ := S.val j b e1
  refine ⟨v, h1, ?_⟩
  cases b with
  | raw => exact absurd rfl e2
  | d y => exact h2
  | own y =>
    obtain ⟨p, vs, a, b, c, d⟩ := h2
    exact ⟨p, vs, a, b, Same.free x.keep c, d⟩
  | dct y =>
    obtain ⟨p, ys, o, a, b, c, d⟩ := h2
    exact ⟨p, ys, o, a, b, Same.free x.keep c, d⟩
/-- the suite's ambience: what flew is known there -/
structure Suit (A A' : Amb) (c : Exc) (cls : Value) (dd : Option Addr) (a : Addr) : Prop where
  z : A'.Z = A.Z
  n : A'.n = A.n
  x : A'.x = .ref a
  fl : Zx A.Z c cls dd A'.F0
section
variable [Wd] {X : Cx} {A : Amb} {W : WX} {x n : Str} {C : Addr} {body suite : List Stmt} {b₀ : Stmt} {np pos pos' : Pos} {g : Rho → SO} {k : Exc → Option (Rho → SO)}
theorem s_tryAs (i : Nat) {m : Nat} (hm : A.n = m) (hs : X.stack = X.env :: X.outer) (hf : X.env.frame = some X.env.locals) (hN : X.N.Nodup) (tk : Takes X W) (hc : L2.Names X x (.ref C))
    (hk : ∀ c cls dd F, Zx A.Z c cls dd F → PySem.W.exmOne X.K cls (.ref C) = some (k c).isSome)
    (hb : ∀ (W' : WX) (pn : List (Addr × Obj)) (xe : Value → Shared → Prop), Takes (X.tr pn xe) W' → PassesOwn (model X.prog X.w) X.A X.env xe → DSs (X.tr pn xe) A W' body g)
    (hsu : ∀ (c : Exc) (s : Rho → SO) (a : Addr) (oe : Obj) (cls : Value) (dd : Option Addr) (pn : List (Addr × Obj)) (A' : Amb), Zc cls dd oe → (∃ vs, oe.data = .fields vs) → Suit A A' c cls dd a → k c = some s → DSs (X.suite a ((a, oe) :: pn)) A' W0 (b₀ :: suite) s)
    (hi : X.N[i]? = some n := by rfl) (hln : X.env.kindOf n = some .local := by rfl) :
    DS X A W (.Try body [.ExceptHandler (some (.Name x np)) (some n) (b₀ :: suite) pos'] [] [] pos) (tryS m i g k) := by
  subst hm
  refine psI (ps_try_as (tb := fun W' => tS A W' g) (ts := fun a cls dd D σ H => ∃ c s A', k c = some s ∧ Suit A A' c cls dd a ∧ tS A' W0 s D σ H) hs hf hN hi hln hc tk hb fun a oe cls dd pn hz hv => ⟨fun pins s σ H E I ⟨c, s', A', h1, h2, q⟩ => (hsu c s' a oe cls dd pn A' hz hv h2 h1).run pins s σ H E I q⟩) fun E σ H ⟨F, ρ, S, q⟩ => ⟨F, ρ, S, ?_⟩
  unfold tryS at q
  cases hg : g ρ with
  | nx ρ' => rw [hg] at q; exact q
  | rt d => rw [hg] at q; exact q
  | ro d => rw [hg] at q; exact q
  | bk d => rw [hg] at q; exact q
  | ct d => rw [hg] at q; exact q
  | bad => rw [hg] at q; exact q
  | ex c =>
    rw [hg] at q
    simp only at q
    intro σ' cls dd F' H' x' up' hl z
    refine ⟨(k c).isSome, hk c cls dd F' z, fun hb => ?_, fun hb => ?_⟩
    · intro a ha
      cases hkc : k c with
      | none => rw [hkc] at hb; cases hb
      | some s =>
        rw [hkc] at q
        simp only at q
        refine ⟨c, s, ⟨F', H', A.Z, A.n, .ref a⟩, hkc, ⟨rfl, rfl, rfl, z⟩, F', sut A.n i, sut_sim (A := ⟨F', H', A.Z, A.n, .ref a⟩) (.refl x'.le) hl, ?_⟩
        cases hso : s (sut A.n i) with
        | nx ρ' =>
          rw [hso] at q
          exact fun σ2 F2 H2 S2 e2 => q _ F2 H2 (back_sim (A := A) (A' := ⟨F', H', A.Z, A.n, .ref a⟩) x' rfl (S2.drop i none)) (up'.trans e2)
        | rt d => rw [hso] at q; exact fun v F2 H2 x2 i2 => q v F2 H2 (x'.trans x2) i2
        | ro d => rw [hso] at q; exact fun p vs F2 H2 x2 h1 h2 h3 h4 h5 => q p vs F2 H2 (x'.trans x2) h1 (Same.free x'.keep h2) h3 h4 h5
        | bk d => rw [hso] at q; exact q.elim
        | ct d => rw [hso] at q; exact q.elim
        | ex d => rw [hso] at q; exact q.elim
        | bad => rw [hso] at q; exact q.elim
    · cases hkc : k c with
      | some s => rw [hkc] at hb; cases hb
      | none => rw [hkc] at q; exact q σ' cls dd F' H' x' up' hl z
end
end DL

/-! The data layer, part 22: what a caught exception is asked; except without a name. -/
namespace DL
open PySem PySem.Spec PyProof.Rows L2
/-- a clause's suite, for those that it takes -/
def handK (y : String) (s : Exc → Rho → SO) : Exc → Option (Rho → SO) := fun c => if subX c.cls y = true then some (s c) else none
theorem handK_some {y : String} {s : Exc → Rho → SO} {c : Exc} {r : Rho → SO} (h : handK y s c = some r) : r = s c := by
  unfold handK at h
  split at h
  · exact (Option.some.inj h).symm
  · cases h
theorem handK_exm {K : PySem.W.Frag} {mg : Str → Option Value} {ns : List String} (T : ExK K mg ns) {y : String} (hy : y ∈ ns) (s : Exc → Rho → SO) : ∀ c cls dd F, Zx (zOf K ns) c cls dd F → PySem.W.exmOne K cls (.ref (gaS K y)) = some (handK y s c).isSome := fun c cls dd F ⟨C, ⟨h0, h1⟩, h2, _⟩ => by
  subst h1
  subst h2
  rw [T.exm _ h0 _ hy]
  unfold handK
  cases subX c.cls y <;> rfl
def xIs (i : Nat) (y : String) (c : Exc) : Rho → Res D := fun ρ => match ρ[i]? with
  | some (some .raw) => .ok (.bool (subX c.cls y))
  | _ => .bad
def xVe (i : Nat) : Rho → Res D := fun ρ => match ρ[i]? with
  | some (some .raw) => .ok (.bool true)
  | _ => .bad
def xAt (i : Nat) (c : Exc) : Rho → Res D := fun ρ => match ρ[i]? with
  | some (some .raw) => if c.cls = "BadTests" then (match c.num with
    | some n => .ok (.int n)
    | none => .bad) else .bad
  | _ => .bad
/-- the dict of what flew stands -/
def dictAt (H : Hp) : Option Addr → Prop
  | none => True
  | some d => ∃ fs, H d = some (.xd fs)
/-- isinstance(e, c), e the exception that the suite holds -/
def rIsX (K : PySem.W.Frag) (D a : Addr) (dd : Option Addr) : List V → Hp → VK → Prop := fun xs H Q => ∃ (c : V) (cv : Value) (b : Bool), xs = [.ref a, c] ∧ (∀ u, RelV c u → u = cv) ∧ PySem.W.kitOne K (.ref D) cv = some b ∧
  dictAt H dd ∧ Q (.bl b) H
theorem call_isX {X : Cx} {a : Addr} {oe : Obj} {dd : Option Addr} {pn : List (Addr × Obj)} {x : String} (C : ClsX X.K x) (hz : Zc (.ref (gaS X.K x)) dd oe) (hf : ∃ vs, oe.data = .fields vs) : CallR (X.suite a ((a, oe) :: pn)) (.builtin "isinstance") (rIsX X.K (gaS X.K x) a dd) := by
  intro pins s σ H xs us Q I r h
  obtain ⟨c, cv, b, rfl, hcv, e, hd, q⟩ := h
  cases r with
  | cons rx rr =>
    cases rr with
    | cons rt rr =>
      cases rr
      cases rx
      have ec := hcv _ rt
      subst ec
      obtain ⟨hget, _⟩ := I.pin (a, oe) (List.mem_append.mpr (.inl List.mem_cons_self))
      obtain ⟨vs, hv⟩ := hf
      obtain ⟨od, J⟩ : ∃ od, PySem.W.InstAt s.heap a oe (gaS X.K x) od := by
        obtain ⟨h1, h2⟩ := hz
        have hn : PySem.W.notCls oe := by unfold PySem.W.notCls; rw [hv]
        cases dd with
        | none => exact ⟨none, hget, h1, hn, by rw [h2]; trivial⟩
        | some d =>
          obtain ⟨fs, hx⟩ := hd
          have hx : ObjOk X.prog X.w H s.heap d (.xd fs) := I.hok d _ hx
          obtain ⟨mA, hns, hr⟩ := hx
          obtain ⟨od, ho, hl⟩ := lookIn_ns hns
          exact ⟨some od, hget, h1, hn, by rw [h2]; exact ho⟩
      exact PySem.W.kia_one (PySem.W.kitx_exc C.cl C.ga C.gt C.b C.fc C.sg C.tk C.mo) I.kIn J e (fun z => nomatch z) fun tk => ⟨.bl b, H, I.kept (t' := tk) fun _ _ z => z, rfl, q⟩
section
variable [Wd] {ns : List String} {X : Cx} {A A' : Amb} {n : Str} {c : Exc} {a : Addr} {oe : Obj} {cls : Value} {dd : Option Addr} {pn : List (Addr × Obj)} {p p1 p2 pos : Pos}
theorem Suit.dict {F H : Hp} {σ : L2.St} {ρ : Rho} (Su : Suit A A' c cls dd a) (S : Sim A' F H σ ρ) : dictAt H dd := by
  obtain ⟨C, _, _, h⟩ := Su.fl
  cases hc : c.num with
  | none => rw [hc] at h; subst h; trivial
  | some m =>
    rw [hc] at h
    obtain ⟨d, rfl, hd⟩ := h
    exact ⟨_, S.le _ _ (S.ext.up _ _ hd)⟩
theorem Suit.is (Su : Suit A A' c cls dd a) (T : ExK X.K X.mg ns) (hZ : A.Z = zOf X.K ns) : c.cls ∈ ns ∧ cls = .ref (gaS X.K c.cls) := by
  obtain ⟨C, h1, h2, _⟩ := Su.fl
  rw [hZ] at h1
  obtain ⟨h0, h1⟩ := h1
  subst h1
  exact ⟨h0, h2⟩
theorem raw_of {α : Type} {ρ : Rho} {i : Nat} {r : Res α} {s : Res α} (h : (match ρ[i]? with | some (some .raw) => r | _ => .bad) = s) (hs : s ≠ .bad) : ρ[i]? = some (some .raw) ∧ r = s := by
  cases hr : ρ[i]? with
  | none => rw [hr] at h; exact absurd h.symm hs
  | some o =>
    rw [hr] at h
    cases o with
    | none => exact absurd h.symm hs
    | some b =>
      cases b with
      | raw => exact ⟨rfl, h⟩
      | _ => exact absurd h.symm hs
theorem d_isE (i : Nat) (y : String) (T : ExK X.K X.mg ns) (Su : Suit A A' c cls dd a) (hZ : A.Z = zOf X.K ns) (hz : Zc cls dd oe) (hv : ∃ vs, oe.data = .fields vs) (hm : X.mg "isinstance" = none) (hy : y ∈ ns := by decide) (hN : X.N[i]? = some n := by rfl) (hvi : Vis X.env.scope n := by first | exact Or.inl rfl | exact Or.inr (Or.inl rfl) | exact Or.inr (Or.inr rfl))
    (hd : (n == ("__debug__" : Str)) = false := by decide) (hcd : (n == ("__classdict__" : Str)) = false := by decide) (hg : Gl X "isinstance" := by rfl) (hgy : Gl X (Str.ofString y) := by rfl) (hdy : ((Str.ofString y) == ("__debug__" : Str)) = false := by decide)
    (hs : starEach [.Name n p1, .Name (Str.ofString y) p2] X.env = (false, eval (.Name n p1) X.env) :: starEach [.Name (Str.ofString y) p2] X.env := by rfl) (hs2 : starEach [.Name (Str.ofString y) p2] X.env = (false, eval (.Name (Str.ofString y) p2) X.env) :: starEach [] X.env := by rfl) (hpl : (backTo pos (starEach [.Name (Str.ofString y) p2] X.env)).any (·.1) = false := by rfl) :
    DE (X.suite a ((a, oe) :: pn)) A' W0 (.Call (.Name "isinstance" p) [.Name n p1, .Name (Str.ofString y) p2] [] pos) (xIs i y c) := by
  obtain ⟨hcn, ec⟩ := Su.is T hZ
  subst ec
  exact peI (pe_callB (X := X.suite a ((a, oe) :: pn)) (call_isX (T.cls _ hcn) hz hv) hg hm (by decide +kernel) (pa_cons (pe_var (i := i) hN hvi hd hcd) (pa_cons (pe_glob (v := .ref (gaS X.K y)) hgy (T.mg y hy) rfl hdy) pa_nil hs2) hs) (by decide) (by decide) hs hpl) fun σ H Q ⟨F, ρ, S, q⟩ => by
    have hne : xIs i y c ρ ≠ .bad := fun z => by rw [z] at q; exact q
    obtain ⟨hr, e⟩ := raw_of (s := xIs i y c ρ) rfl hne
    obtain ⟨v, e1, e2⟩ := S.val i _ hr
    have e3 : v = .ref a := e2.trans Su.x
    subst e3
    rw [← e] at q
    exact ⟨_, e1, .ref (gaS X.K y), .ref (gaS X.K y), subX c.cls y, rfl, fun u h => h, T.kit _ hcn _ hy, Su.dict S, q _ F H (.refl S.le) (.bl _)⟩
theorem d_isV (i : Nat) (T : ExK X.K X.mg ns) (Su : Suit A A' c cls dd a) (hZ : A.Z = zOf X.K ns) (hz : Zc cls dd oe) (hv : ∃ vs, oe.data = .fields vs) (hm : X.mg "isinstance" = none) (hmv : X.mg "ValueError" = none) (hN : X.N[i]? = some n := by rfl) (hvi : Vis X.env.scope n := by first | exact Or.inl rfl | exact Or.inr (Or.inl rfl) | exact Or.inr (Or.inr rfl))
    (hd : (n == ("__debug__" : Str)) = false := by decide) (hcd : (n == ("__classdict__" : Str)) = false := by decide) (hg : Gl X "isinstance" := by rfl) (hgy : Gl X "ValueError" := by rfl)
    (hs : starEach [.Name n p1, .Name "ValueError" p2] X.env = (false, eval (.Name n p1) X.env) :: starEach [.Name "ValueError" p2] X.env := by rfl) (hs2 : starEach [.Name "ValueError" p2] X.env = (false, eval (.Name "ValueError" p2) X.env) :: starEach [] X.env := by rfl) (hpl : (backTo pos (starEach [.Name "ValueError" p2] X.env)).any (·.1) = false := by rfl) :
    DE (X.suite a ((a, oe) :: pn)) A' W0 (.Call (.Name "isinstance" p) [.Name n p1, .Name "ValueError" p2] [] pos) (xVe i) := by
  obtain ⟨hcn, ec⟩ := Su.is T hZ
  subst ec
  exact peI (pe_callB (X := X.suite a ((a, oe) :: pn)) (call_isX (T.cls _ hcn) hz hv) hg hm (by decide +kernel) (pa_cons (pe_var (i := i) hN hvi hd hcd) (pa_cons (pe_bltn (v := .ty "ValueError") hgy hmv PyProof.Rows.Boot.«ValueError» rfl) pa_nil hs2) hs) (by decide) (by decide) hs hpl) fun σ H Q ⟨F, ρ, S, q⟩ => by
    have hne : xVe i ρ ≠ .bad := fun z => by rw [z] at q; exact q
    obtain ⟨hr, e⟩ := raw_of (s := xVe i ρ) rfl hne
    obtain ⟨v, e1, e2⟩ := S.val i _ hr
    have e3 : v = .ref a := e2.trans Su.x
    subst e3
    rw [← e] at q
    exact ⟨_, e1, .ty "ValueError", .type "ValueError", true, rfl, fun u h => h, (T.cls _ hcn).ve, Su.dict S, q _ F H (.refl S.le) (.bl _)⟩
/-- e.at -/
theorem d_at (i : Nat) (T : ExK X.K X.mg ns) (Su : Suit A A' c cls dd a) (hZ : A.Z = zOf X.K ns) (hz : Zc cls dd oe) (hv : ∃ vs, oe.data = .fields vs) (hN : X.N[i]? = some n := by rfl) (hvi : Vis X.env.scope n := by first | exact Or.inl rfl | exact Or.inr (Or.inl rfl) | exact Or.inr (Or.inr rfl))
    (hd : (n == ("__debug__" : Str)) = false := by decide) (hcd : (n == ("__classdict__" : Str)) = false := by decide) (hb : attributeBase (.Name n p1) "at" X.env (eval (.Name n p1) X.env) = eval (.Name n p1) X.env := by rfl) :
    DE (X.suite a ((a, oe) :: pn)) A' W0 (.Attribute (.Name n p1) "at" pos) (xAt i c) := by
  obtain ⟨hcn, ec⟩ := Su.is T hZ
  by_cases hbt : c.cls = "BadTests"
  · have hbt' : "BadTests" ∈ ns := by rw [← hbt]; exact hcn
    have G := T.cls "BadTests" hbt'
    refine peI (pe_xf (X := X) (C := gaS X.K "BadTests") ⟨G.ga, G.gt, G.b, (T.bad hbt').hd⟩ (T.bad hbt').no hz hv (pe_var (X := X.suite a ((a, oe) :: pn)) (i := i) hN hvi hd hcd) hb) fun σ H Q ⟨F, ρ, S, q⟩ => ?_
    have hne : xAt i c ρ ≠ .bad := fun z => by rw [z] at q; exact q
    obtain ⟨hr, e⟩ := raw_of (s := xAt i c ρ) rfl hne
    obtain ⟨v, e1, e2⟩ := S.val i _ hr
    have e3 : v = .ref a := e2.trans Su.x
    subst e3
    rw [← e, if_pos hbt] at q
    obtain ⟨C, h1, h2, h⟩ := Su.fl
    cases hc : c.num with
    | none => rw [hc] at q; exact q.elim
    | some m =>
      rw [hc] at h q
      obtain ⟨d, rfl, hdd⟩ := h
      refine ⟨_, e1, rfl, by rw [ec, hbt], d, [(("at" : Str), .int m)], .int m, rfl, S.le _ _ (S.ext.up _ _ hdd), by simp [List.lookup], q _ F H (.refl S.le) (.int _)⟩
  · exact ⟨fun pins s σ H Q I ⟨F, ρ, S, q⟩ => by
      exfalso
      have hne : xAt i c ρ ≠ .bad := fun z => by rw [z] at q; exact q
      obtain ⟨hr, e⟩ := raw_of (s := xAt i c ρ) rfl hne
      rw [← e, if_neg hbt] at q
      exact q⟩
end
end DL

/-! The data layer, part 23: xs * k; int(e); except without a name. -/
namespace DL
open PySem PySem.Spec PyProof.Rows L2
section
set_option maxHeartbeats 4000000
theorem tuple_mulS (l : Addr) (items : Array Value) (n : Nat) (dd : Option Addr) (sl : Array (Option Value)) (x : Int) (u : Tok) (c0 : (decide (x < -(2 ^ 63)) || decide (x ≥ 2 ^ 63)) = false) (c1 : (items.isEmpty || x == 1) = true) :
    Meets (Builtin.«tuple.__mul__» ⟨[.ref l, .int x u], []⟩) (fun _ R s => s.heap.get? l = some { cls := .type "tuple", dict := dd, data := .seq items n, slots := sl } ∧ R (.ok (.ret (Value.ref l))) s) :=
  .of_wp fun prog w A R s h => by
    obtain ⟨hp, g, d, tk, os⟩ := s
    obtain ⟨hl, h⟩ := h
    have f1 := AutoSeq1.idx_int
    wp_walk using wpAny_loadPart' hl
    repeat (first
      | (refine wpAny_ite_false (decide_eq_false (by rw [c0]; exact Bool.false_ne_true)) ?_; wp_walk using wpAny_loadPart' hl)
      | (refine wpAny_ite_true (decide_eq_true (by rw [c1])) ?_; wp_walk using wpAny_loadPart' hl))
    exact ⟨_, rfl, h⟩
theorem tuple_mulZ (l : Addr) (items : Array Value) (n : Nat) (dd : Option Addr) (sl : Array (Option Value)) (x : Int) (u : Tok) (c0 : (decide (x < -(2 ^ 63)) || decide (x ≥ 2 ^ 63)) = false) (c1 : (items.isEmpty || x == 1) = false) (c2 : (decide (x ≤ 0) || items.isEmpty) = true) :
    Meets (Builtin.«tuple.__mul__» ⟨[.ref l, .int x u], []⟩) (fun _ R s => s.heap.get? l = some { cls := .type "tuple", dict := dd, data := .seq items n, slots := sl } ∧
      R (.ok (.ret (Value.ref s.heap.objs.size))) { s with heap := s.heap.push { cls := Value.type "tuple", data := Data.seq #[] }, toks := s.toks }) :=
  .of_wp fun prog w A R s h => by
    obtain ⟨hp, g, d, tk, os⟩ := s
    obtain ⟨hl, h⟩ := h
    have f1 := AutoSeq1.idx_int
    wp_walk using wpAny_loadPart' hl
    repeat (first
      | (refine wpAny_ite_false (decide_eq_false (by rw [c0]; exact Bool.false_ne_true)) ?_; wp_walk using wpAny_loadPart' hl)
      | (refine wpAny_ite_false (decide_eq_false (by rw [c1]; exact Bool.false_ne_true)) ?_; wp_walk using wpAny_loadPart' hl)
      | (refine wpAny_ite_true (decide_eq_true (by rw [c2])) ?_; wp_walk using wpAny_loadPart' hl))
    exact ⟨_, rfl, h⟩
end

def repD (xs : List D) (k : Int) : List D := (List.replicate k.toNat xs).flatten
def mulA : D → D → Option D
  | .tuple xs, .int k => if (Nat.ble xs.length 1000 && (decide (0 ≤ k) && decide (k ≤ 1000))) = true then some (.tuple (repD xs k)) else none
  | .list xs, .int k => if (Nat.ble xs.length 1000 && (decide (0 ≤ k) && decide (k ≤ 1000))) = true then some (.list (repD xs k)) else none
  | _, _ => none
theorem IsA.rep [Wd] {F : Hp} {vs : List V} {xs : List D} (t : IsA F vs xs) : ∀ n : Nat, IsA F (List.replicate n vs).flatten (List.replicate n xs).flatten
  | 0 => .nil
  | n + 1 => by
    rw [List.replicate_succ, List.replicate_succ, List.flatten_cons, List.flatten_cons]
    exact t.append (IsA.rep t n)
theorem rep_len {α : Type} (xs : List α) (k : Int) (h : xs.length ≤ 1000) (hk : k ≤ 1000) : (List.replicate k.toNat xs).flatten.length ≤ 1000000 := by
  have : (List.replicate k.toNat xs).flatten.length = k.toNat * xs.length := by simp [List.length_flatten]
  rw [this]
  exact Nat.mul_le_mul (show k.toNat ≤ 1000 by omega) h
section
variable [Wd] {X : Cx} {pins : List (Addr × Obj)} {σ : L2.St} {H : Hp} {s : Shared}
open L2 in
theorem mul_tup {l : Addr} {xs : List V} {k : Int} {t : Tok} {Q : VK} (I : L2.Inv X pins σ H s) (hT : SqT X.K H l xs) (h0 : 0 ≤ k) (h1 : k ≤ 1000) (hz : xs.length ≤ 1000) (hs : xs = [] ∨ k = 1 → Q (.ref l) H)
    (hn : xs ≠ [] → k ≠ 1 → ∀ p, H p = none → Q (.ref p) (upd H p (.tup (List.replicate k.toNat xs).flatten))) : wpAny (model X.prog X.w) X.A (binaryOp .Mult (.ref l) (.int k t)) (EP X pins σ Q) X.xe s := by
  obtain ⟨its, r, ⟨⟨cls, dd, data, sl⟩, ho, hc, n, hd⟩, hsz⟩ := I.tuple hT
  simp only at hc hd
  subst hc hd
  have hle : its.length = xs.length := r.length.symm
  have hi : its.toArray.isEmpty = decide (xs = []) := by
    cases its with
    | nil =>
      cases xs with
      | nil => rfl
      | cons _ _ => simp at hle
    | cons a b =>
      cases xs with
      | nil => simp at hle
      | cons _ _ => rfl
  have c0 : (decide (k < -(2 ^ 63)) || decide (k ≥ 2 ^ 63)) = false := by
    rw [decide_eq_false (by omega), decide_eq_false (by omega)] <;> rfl
  by_cases hsame : xs = [] ∨ k = 1
  · have c1 : (its.toArray.isEmpty || k == 1) = true := by
      rw [hi]
      rcases hsame with h | h
      · rw [decide_eq_true h]; rfl
      · subst h; simp
    refine wpAny_binaryOp_repeat_ref (T := "tuple") (U := "int") (by decide) ⟨_, ho, rfl⟩ (fun s' => typeIs_int s' k t) noFill_tuple_mul F.fills_int_mul F.slot_int_rmul repeat_tuple F.slot_int_index.lookup
      (call_meets F.slot_int_rmul (typeIs_int s k t) F.entry_int_rmul (F.args_int_rmul_2 _ _) (int_rmul_tuple k t l its.toArray n dd sl)
        ⟨ho, rfl, ⟨_, ho, rfl⟩, call_meets F.slot_tuple_mul ⟨_, ho, rfl⟩ F.entry_tuple_mul (F.args_tuple_mul_2 _ _) (tuple_mulS l its.toArray n dd sl k t c0 c1) ⟨ho, ?_⟩⟩)
    exact ⟨.ref l, H, I, rfl, hs hsame⟩
  · have hne : xs ≠ [] := fun z => hsame (.inl z)
    have hk1 : k ≠ 1 := fun z => hsame (.inr z)
    by_cases hk : 2 ≤ k
    · exact op_repT pins s σ H _ _ _ _ Q I (show RelV (.ref l) (.ref l) from rfl) (show RelV (.int k) (.int k t) from ⟨t, rfl⟩) ⟨l, k, xs, rfl, rfl, hT, hne, hk, h1, hz, hn hne hk1⟩
    · have hk0 : k = 0 := by omega
      subst hk0
      have c1 : (its.toArray.isEmpty || (0 : Int) == 1) = false := by rw [hi, decide_eq_false hne]; rfl
      refine wpAny_binaryOp_repeat_ref (T := "tuple") (U := "int") (by decide) ⟨_, ho, rfl⟩ (fun s' => typeIs_int s' 0 t) noFill_tuple_mul F.fills_int_mul F.slot_int_rmul repeat_tuple F.slot_int_index.lookup
        (call_meets F.slot_int_rmul (typeIs_int s 0 t) F.entry_int_rmul (F.args_int_rmul_2 _ _) (int_rmul_tuple 0 t l its.toArray n dd sl)
          ⟨ho, rfl, ⟨_, ho, rfl⟩, call_meets F.slot_tuple_mul ⟨_, ho, rfl⟩ F.entry_tuple_mul (F.args_tuple_mul_2 _ _) (tuple_mulZ l its.toArray n dd sl 0 t c0 c1 rfl) ⟨ho, ?_⟩⟩)
      refine ⟨.ref s.heap.objs.size, _, I.laid (t' := s.toks) (o := .tup []) (fun b ob q => Heap.get?_push_of_some _ q) (Nat.le_refl _) ?_, rfl, hn hne hk1 _ (I.hok.fresh (Nat.le_refl _))⟩
      exact ⟨Nat.zero_le _, [], .nil, IsTup.new _ _⟩
theorem mul_lst {l : Addr} {xs : List V} {k : Int} {t : Tok} {Q : VK} (I : L2.Inv X pins σ H s) (hH : Rd H l (.lst xs)) (h0 : 0 ≤ k) (hk : k ≤ 1000) (hzz : xs.length ≤ 1000)
    (q : ∀ p, H p = none → Q (.ref p) (upd H p (.lst (List.replicate k.toNat xs).flatten))) : wpAny (model X.prog X.w) X.A (binaryOp .Mult (.ref l) (.int k t)) (EP X pins σ Q) X.xe s := by
  obtain ⟨z, its, n, r, hl, e⟩ := Inv.lstR I hH
  have h1 : -(2 ^ 63) ≤ k := by omega
  have h2 : k < 2 ^ 63 := by omega
  have hz : xs.length * k.toNat ≤ sizeLine := by
    have : xs.length * k.toNat ≤ 1000 * 1000 := Nat.mul_le_mul hzz (show k.toNat ≤ 1000 by omega)
    have := sizeLine_eq
    omega
  have hlen : its.toArray.size * k.toNat ≤ sizeLine := by rw [List.size_toArray, ← hl]; exact hz
  have hcap : ¬ its.toArray.size * k.toNat > (2 ^ 63 - 1) / 8 := by
    have : (sizeLine : Nat) ≤ (2 ^ 63 - 1) / 8 := by decide
    omega
  have hfit : ¬ (!Builtin.List.listFitsIndex k) = true := by
    rw [fitsIndex_both h1 h2]
    exact Bool.false_ne_true
  have hlong : ¬ Builtin.List.listTooLong (its.toArray.size * k.toNat) = true := by
    rw [notLongL hlen]
    exact Bool.false_ne_true
  have hnew : List.foldl (fun x1 x2 => x1 ++ x2) #[] (List.replicate (if its.toArray.isEmpty = true then 0 else k.toNat) its.toArray) = (List.replicate k.toNat its).flatten.toArray := by
    have f0 : ∀ m : Nat, List.foldl (fun x1 x2 => x1 ++ x2) #[] (List.replicate m its.toArray) = (List.replicate m its).flatten.toArray := fun m => by
      have := foldl_rep its m []
      rw [List.nil_append] at this
      exact this
    rw [f0]
    cases its with
    | nil => simp
    | cons a r' => rw [if_neg (by simp)]
  refine wpAny_binaryOp_repeat_ref (T := "list") (U := "int") (by decide) ⟨_, e, rfl⟩ (fun s' => typeIs_int s' k t) noFill_list_mul F.fills_int_mul F.slot_int_rmul repeat_list F.slot_int_index.lookup
    (call_meets F.slot_int_rmul (typeIs_int s k t) F.entry_int_rmul (F.args_int_rmul_2 _ _) (int___rmul___int_list k t l its.toArray n)
      ⟨e, rfl, ⟨_, e, rfl⟩, call_meets F.slot_list_mul ⟨_, e, rfl⟩ F.entry_list_mul (F.args_list_mul_2 _ _) (AutoListH.list___mul___list_int_3 l its.toArray n k t hfit hcap hlong) ⟨e, ?_⟩⟩)
  rw [hnew]
  exact ⟨.ref _, _, I.lnew (t' := s.toks) (r.rep k.toNat) (by rw [PyProof.Rows.lm_len_rep_flat, Nat.mul_comm]; exact hz), rfl, q _ I.fresh⟩
end
section
variable [Wd] {X : Cx}
theorem mulA_ok {n : Nat} {k : Int} (h : (Nat.ble n 1000 && (decide (0 ≤ k) && decide (k ≤ 1000))) = true) : n ≤ 1000 ∧ 0 ≤ k ∧ k ≤ 1000 := by
  rw [Bool.and_eq_true, Bool.and_eq_true, Nat.ble_eq] at h
  exact ⟨h.1, of_decide_eq_true h.2.1, of_decide_eq_true h.2.2⟩
theorem o_mulA : OpR X (binaryOp .Mult) (rD mulA) := by
  intro pins s σ H x y v u Q I rx ry h
  obtain ⟨F, a, b, d, le, ia, ib, e, q⟩ := h
  unfold mulA at e
  split at e
  · rename_i xs k
    split at e
    · rename_i hh
      cases e
      obtain ⟨hz, h0, h1⟩ := mulA_ok hh
      have it := ia.tupIs
      obtain ⟨p, vs, rfl, hp, z, t⟩ := ia.tup le
      cases ib.int
      cases rx
      obtain ⟨tk, rfl⟩ := ry
      have hl := t.length
      have hsz : (List.replicate k.toNat vs).flatten.length ≤ sizeLine := by
        have := rep_len vs k (by omega) h1
        have := sizeLine_eq
        omega
      refine mul_tup I (.inl hp) h0 h1 (by omega) (fun hs => ?_) fun _ _ p' hn => q _ _ _ (.laid le hn) (.newT le hn hsz (t.rep k.toNat))
      have e1 : repD xs k = xs := by
        unfold repD
        rcases hs with hs | hs
        · have : xs = [] := by
            cases xs with
            | nil => rfl
            | cons _ _ => rw [hs] at hl; simp at hl
          subst this
          simp
        · subst hs; simp
      rw [e1] at q
      exact q _ F H (.refl le) it
    · cases e
  · rename_i xs k
    split at e
    · rename_i hh
      cases e
      obtain ⟨hz, h0, h1⟩ := mulA_ok hh
      obtain ⟨p, vs, rfl, hp, z, t⟩ := ia.list le
      cases ib.int
      cases rx
      obtain ⟨tk, rfl⟩ := ry
      have hl := t.length
      have hsz : (List.replicate k.toNat vs).flatten.length ≤ sizeLine := by
        have := rep_len vs k (by omega) h1
        have := sizeLine_eq
        omega
      exact mul_lst I hp h0 h1 (by omega) fun p' hn => q _ _ _ (.laid le hn) (.newL le hn hsz (t.rep k.toNat))
    · cases e
  · cases e
/-! ### int(e) -/
def intD1 : List D → Option D
  | [.int i] => some (.int i)
  | [.bool b] => some (.int (if b then 1 else 0))
  | _ => none
theorem c_int : CallR X (.type "int") (cD intD1) := by
  intro pins s σ H xs us Q I r h
  obtain ⟨F, as, d, le, ia, e, q⟩ := h
  unfold intD1 at e
  split at e
  · cases e
    obtain ⟨v, rfl, i⟩ := ia.one
    cases i.int
    exact call_int1 pins s σ H _ us Q I r (.inl ⟨_, rfl, q _ F H (.refl le) (.int _)⟩)
  · cases e
    obtain ⟨v, rfl, i⟩ := ia.one
    cases i.bl
    exact call_int1 pins s σ H _ us Q I r (.inr ⟨_, rfl, q _ F H (.refl le) (.int _)⟩)
  · cases e
end
/-! ### except without a name -/
section
variable [Wd] {X : Cx} {A : Amb} {W : WX} {x : Str} {C : Addr} {body suite : List Stmt} {b₀ : Stmt} {np pos pos' : Pos} {g : Rho → SO} {k : Exc → Option (Rho → SO)}
theorem s_tryN {m : Nat} (hm : A.n = m) (hs : X.stack = X.env :: X.outer) (hf : X.env.frame = some X.env.locals) (tk : Takes X W) (hc : L2.Names X x (.ref C))
    (hk : ∀ c cls dd F, Zx A.Z c cls dd F → PySem.W.exmOne X.K cls (.ref C) = some (k c).isSome)
    (hb : ∀ (W' : WX) (pn : List (Addr × Obj)) (xe : Value → Shared → Prop), Takes (X.tr pn xe) W' → PassesOwn (model X.prog X.w) X.A X.env xe → DSs (X.tr pn xe) A W' body g)
    (hsu : ∀ (c : Exc) (s : Rho → SO) (a : Addr) (oe : Obj) (cls : Value) (dd : Option Addr) (pn : List (Addr × Obj)) (A' : Amb), Zc cls dd oe → (∃ vs, oe.data = .fields vs) → Suit A A' c cls dd a → k c = some s → DSs (X.suite a ((a, oe) :: pn)) A' W0 (b₀ :: suite) s) :
    DS X A W (.Try body [.ExceptHandler (some (.Name x np)) none (b₀ :: suite) pos'] [] [] pos) (tryN m g k) := by
  subst hm
  refine psI (ps_try_only (tb := fun W' => tS A W' g) (ts := fun a cls dd D σ H => ∃ c s A', k c = some s ∧ Suit A A' c cls dd a ∧ tS A' W0 s D σ H) hs hf hc tk hb fun a oe cls dd pn hz hv => ⟨fun pins s σ H E I ⟨c, s', A', h1, h2, q⟩ => (hsu c s' a oe cls dd pn A' hz hv h2 h1).run pins s σ H E I q⟩) fun E σ H ⟨F, ρ, S, q⟩ => ⟨F, ρ, S, ?_⟩
  unfold tryN at q
  cases hg : g ρ with
  | nx ρ' => rw [hg] at q; exact q
  | rt d => rw [hg] at q; exact q
  | ro d => rw [hg] at q; exact q
  | bk d => rw [hg] at q; exact q
  | ct d => rw [hg] at q; exact q
  | bad => rw [hg] at q; exact q
  | ex c =>
    rw [hg] at q
    simp only at q
    intro σ' cls dd F' H' x' up' hl z
    refine ⟨(k c).isSome, hk c cls dd F' z, fun hb => ?_, fun hb => ?_⟩
    · intro a ha
      cases hkc : k c with
      | none => rw [hkc] at hb; cases hb
      | some s =>
        rw [hkc] at q
        simp only at q
        refine ⟨c, s, ⟨F', H', A.Z, A.n, .ref a⟩, hkc, ⟨rfl, rfl, rfl, z⟩, F', List.replicate A.n none, blank_sim (A := ⟨F', H', A.Z, A.n, .ref a⟩) x'.le (.refl x'.le) hl, ?_⟩
        cases hso : s (List.replicate A.n none) with
        | nx ρ' =>
          rw [hso] at q
          exact fun σ2 F2 H2 S2 e2 => q _ F2 H2 (back_sim (A := A) (A' := ⟨F', H', A.Z, A.n, .ref a⟩) x' rfl S2) (up'.trans e2)
        | rt d => rw [hso] at q; exact fun v F2 H2 x2 i2 => q v F2 H2 (x'.trans x2) i2
        | ro d => rw [hso] at q; exact fun p vs F2 H2 x2 h1 h2 h3 h4 h5 => q p vs F2 H2 (x'.trans x2) h1 (Same.free x'.keep h2) h3 h4 h5
        | bk d => rw [hso] at q; exact q.elim
        | ct d => rw [hso] at q; exact q.elim
        | ex d => rw [hso] at q; exact q.elim
        | bad => rw [hso] at q; exact q.elim
    · cases hkc : k c with
      | some s => rw [hkc] at hb; cases hb
      | none => rw [hkc] at q; exact q σ' cls dd F' H' x' up' hl z
end
end DL

/-! The data layer, part 24: what is never come to; x.split(e). -/
namespace DL
open PySem PySem.Spec PyProof.Rows L2
def splitD (x : Str) : D → Option D
  | .str y => if (!(y.length == 0) && (decide (x.length + 2 ≤ sizeLine) && decide ((Txt.split x y).length ≤ sizeLine))) = true then some (.list ((Txt.split x y).map PyData.str)) else none
  | _ => none
def splitR (fa fb : Rho → Res D) : Rho → Res D := fun ρ => (fa ρ).bind fun a => match a with
  | .str x => (fb ρ).bind fun b => .of (splitD x b)
  | _ => .bad
section
variable [Wd] {X : Cx} {A : Amb} {W : WX} {o e : Expr} {fa fb : Rho → Res D}
theorem isA_strs {F : Hp} : ∀ ys : List Str, IsA F (ys.map V.str) (ys.map PyData.str)
  | [] => .nil
  | y :: ys => .cons (.str y) (isA_strs ys)
theorem d_split {apos pos : Pos} (ho : BE X A W o fa) (he : BE X A W e fb) (hs : starEach [e] X.env = [(false, eval e X.env)] := by rfl) (hbase : attributeBase o "split" X.env (eval o X.env) = eval o X.env := by rfl) (hline : (apos.endLine == pos.line) = true := by rfl) :
    DE X A W (.Call (.Attribute o "split" apos) [e] [] pos) (splitR fa fb) :=
  peI (pe_split ho he hs hbase hline) fun σ H Q ⟨F, ρ, S, q⟩ => ⟨F, ρ, S, by
    unfold splitR at q
    cases ha : fa ρ with
    | bad => rw [ha] at q; exact q
    | ex c => rw [ha] at q; exact q
    | ok da =>
      rw [ha] at q
      simp only [Res.bind_ok] at q
      intro x F1 H1 x1 i1
      cases da with
      | str a =>
        cases i1.str
        refine ⟨⟨a, rfl⟩, F1, ρ, S.grow x1, ?_⟩
        dsimp only at q
        cases hb : fb ρ with
        | bad => rw [hb] at q; exact q
        | ex c => rw [hb] at q; exact q.ext x1
        | ok db =>
          rw [hb] at q
          simp only [Res.bind_ok] at q
          intro y F2 H2 x2 i2
          cases db with
          | str b =>
            cases i2.str
            unfold splitD at q
            dsimp only at q
            by_cases hc : (!(b.length == 0) && (decide (a.length + 2 ≤ sizeLine) && decide ((Txt.split a b).length ≤ sizeLine))) = true
            · rw [if_pos hc] at q
              simp only [Bool.and_eq_true, Bool.not_eq_true', decide_eq_true_eq] at hc
              refine ⟨a, b, rfl, rfl, hc.1, hc.2.1, fun p hn => ?_⟩
              exact q _ _ _ ((x1.trans x2).trans (.laid x2.le hn)) (.newL x2.le hn (by rw [List.length_map]; exact hc.2.2) (isA_strs _))
            · rw [if_neg hc] at q
              exact q.elim
          | _ => exact q.elim
      | _ => exact q.elim⟩
end
end DL

/-! The data layer, whole. -/

/-! The data layer, part 14: the head. The written part that the facts are read of holds no list. -/
namespace DL
open PySem PySem.Spec PyProof.Rows L2
def noList (o : Obj) : Bool := match o.cls with
  | .type n => n != "list"
  | _ => true
def gL (g : Addr → Option Obj) (a : Addr) : Option Obj := match g a with
  | some o => if noList o = true then some o else none
  | none => none
theorem gL_at {g : Addr → Option Obj} {a : Addr} {o : Obj} (h : gL g a = some o) : g a = some o ∧ noList o = true := by
  unfold gL at h
  cases hg : g a with
  | none => rw [hg] at h; cases h
  | some o' =>
    rw [hg] at h
    by_cases hn : noList o' = true
    · rw [show (match some o' with | some o => if noList o = true then some o else none | none => none) = if noList o' = true then some o' else none from rfl, if_pos hn] at h
      cases h
      exact ⟨rfl, hn⟩
    · rw [show (match some o' with | some o => if noList o = true then some o else none | none => none) = if noList o' = true then some o' else none from rfl, if_neg hn] at h
      cases h
def NoL (K : PySem.W.Frag) : Prop := ∀ a o, K.lookup a = some o → noList o = true
/-- the facts, and whatever else is asked of the written part -/
def obsL (n : Nat) (fa : List He.Fa) (fn : List He.DefD) (ex : PySem.W.Frag → Bool) (g : Addr → Option Obj) : He.AlD × Bool :=
  (fun K => (He.obsD fa fn K, ex K)) (He.frG (gL g) (He.asD (gL g) n ++ [cStatics]))
def hookL (n : Nat) (fa : List He.Fa) (fn : List He.DefD) (ex : PySem.W.Frag → Bool) : PySem.W.Hook where
  α := He.AlD × Bool
  obs := fun s => obsL n fa fn ex s.heap.get?
  val := fun _ => (He.valD fn, true)
  says := fun _ h => ∃ K : PySem.W.Frag, K.In h ∧ He.SaysD fa fn K ∧ ex K = true ∧ NoL K
  of := fun _ _ e => ⟨_, fun _ _ q => (gL_at (He.frG_at _ q)).1, (Prod.mk.inj e).1, (Prod.mk.inj e).2, fun _ _ q => (gL_at (He.frG_at _ q)).2⟩
  keeps := fun _ _ _ ⟨K, hK, c⟩ k => ⟨K, PySem.W.Frag.In.keeps hK k, c⟩
theorem obsL_eq {n : Nat} {fa : List He.Fa} {fn : List He.DefD} {ex : PySem.W.Frag → Bool} {g : Addr → Option Obj} {s : Shared} (h : ∀ a, g a = s.heap.get? a) : obsL n fa fn ex g = (hookL n fa fn ex).obs s := by
  have e : g = s.heap.get? := funext h
  rw [e] <;> rfl
section
variable [Wd] {P : Program} {w : World} {K : PySem.W.Frag} {mg : Str → Option Value} {Z : String → Addr → Prop}
theorem isInts {F : Hp} : ∀ ns : List Int, IsA F (ns.map V.int) (ns.map PyData.int)
  | [] => .nil
  | n :: ns => .cons (.int n) (isInts ns)
theorem hsp_D {H : Hp} {a : Addr} {ns : List Int} {fD : List D → RO} {m : Nat} (nl : NoL K) (hS : SqL K H a (ns.map V.int)) (hn : ns.length ≤ m) (hm : m ≤ sizeLine) (e : fD [.list (ns.map PyData.int)] = .rt (.bool true)) :
    spD Z 1 fD [.ref a] H (fun v _ => v = .bl true) fun _ _ _ => False := by
  rcases hS with hS | ⟨o, its, k, lk, hc, _⟩
  · refine ⟨H, [.list (ns.map PyData.int)], rfl, Same.refl _, .cons (.lst hS (by rw [List.length_map]; omega) (isInts ns)) .nil, ?_⟩
    rw [e]
    intro v F' H' _ i
    cases i
    rfl
  · have := nl _ _ lk
    unfold noList at this
    rw [hc] at this
    cases this
theorem law_end {x y : Str} {st : Stmt} {h : Heap} {f : Addr} {k : Nat} {fD : List D → RO} (X : K.In h) (G : h.Ns mainGlobals mg) (hm : mg x = some (.ref f)) {f' : Addr} {fd : FuncData} (F : FunD K x x (defArgs st) (defBody st) (defScope st) [] [] f' fd) (hm' : mg x = some (.ref f'))
    (hb : ∀ (kV doc pm : Value) (an : Option Addr) (cdv ct : Value) (us : List Value), us.length = [y].length → bindArgs (PySem.W.fnOf x x (defArgs st) (defBody st) (defScope st) .none kV doc pm an cdv ct) ⟨us, []⟩ = pure ([y].zip us))
    (hD : ∀ base : Heap, K.In base → base.Ns mainGlobals mg → DefD P w K mg base Z k x [y] fD) :
    ∃ fd : FuncData, (∀ (s : Shared) (v : Value), BindsTo s fd ⟨[v], []⟩ [(y, v)]) ∧ ∀ base : Heap, K.In base → base.Ns mainGlobals mg → FnOk P w K mg base (L2.CX P w) k f fd [y] (spD Z 1 fD) := by
  have ef := hm.symm.trans hm'
  cases ef
  have b := FunD.bindsA (ps := [y]) F hb
  refine ⟨fd, fun s v => b s [v] rfl, fun base h1 h2 => ?_⟩
  obtain ⟨f2, fd2, ok, hm2, _, _, oc, od, osl, lk⟩ := (hD base h1 h2).ex
  have e2 := hm.symm.trans hm2
  cases e2
  obtain ⟨oc', od', dV, kV, doc, pm, an, cdv, ct, osl', e, lk', _⟩ := F.ex
  rw [lk] at lk'
  have e3 : fd2 = fd := by
    have := Option.some.inj lk'
    injection this with _ _ h3 _
    injection h3
  subst e3
  exact ok
omit [Wd] in
theorem cx_false {P : Program} {w : World} {H : Hp} {s : Shared} {e : Value} {s' : Shared} (h : L2.CX P w [] H s (fun _ _ _ => False) e s') : False := by
  obtain ⟨_, _, _, _, _, _, _, _, _, _, _, _, q⟩ := h
  exact q
end
end DL
namespace L2
open PySem PySem.Spec PyProof.Rows
/-- a law over a head by facts, the exceptions' part by the world -/
theorem walk_ofW {l : PySem.W.OpenLaw} {n k : Nat} {q : Program} {loose : List Str} {XP : (Str → Option Value) → Heap → Prop} {YP : World → Heap → Prop} {d : DefRec} {x : Str}
    (hn : l.most = some n) (hn2 : n ≤ sizeLine) (hdf : d.params.defaults = []) (hr : Room k callerA)
    (F : ∀ (w : World) (mg : Str → Option Value) (fa : Addr) (h : Heap), YP w h → h.Ns mainGlobals mg → mg d.name = some (.ref fa) →
      ∃ (K : PySem.W.Frag) (fd : FuncData) (sp : Sp), K.In h ∧ (∀ (s : Shared) (u : Value), BindsTo s fd ⟨[u], []⟩ [(x, u)]) ∧
        (∀ (H : Hp) (a : Addr) (ns : List Int), ns.length ≤ n → Only H → SqL K H a (ns.map V.int) → sp [.ref a] H (fun v _ => v = .bl true) fun _ _ _ => False) ∧
        ∀ base : Heap, K.In base → base.Ns mainGlobals mg → FnOk l.prog w K mg base (CX l.prog w) k fa fd [x] sp)
    (hCX : ∀ (w : World) (H : Hp) (s : Shared) (e : Value) (s' : Shared), CX l.prog w [] H s (fun _ _ _ => False) e s' → False) :
    PySem.W.WalkO q loose XP YP l.row.toRowW d [] (fun f vs => PySem.call f vs) := by
  refine Att.attach_call hn hdf fun w s₀ s₁ mg mb fa o pm cd doc a vs ns G Y ho hd hcd hmg hobj hints hlen hg => ?_
  obtain ⟨K, fd, sp, KX, hb, hsp, hF⟩ := F w mg fa _ Y G.T.g hmg
  exact law_call KX G.T.g G.T.b G.T.builtins G.T.nolimit hg hobj hints (Nat.le_trans hlen hn2) hr hF hb (fun H hO hS => hsp H a ns hlen hO hS) fun H e s' => hCX w H s₁ e s'
end L2


noncomputable section
namespace DM
open PySem PySem.Spec PyProof.Rows L2 DL
def g_is_within : Rho → SO := (retS (andV (isiR "int" (rdB 0)) (andV (ofB (notT (toTru (isiR "bool" (rdB 0))))) (chV leD leD (rdB 1) (rdB 0) (rdB 2)))))
def f_is_within : List D → RO := runD 3 g_is_within
def g_is_meeting_b1 : Rho → SO := (seqS (ifS (orT (notT (toTru (isiR "tuple" (rdB 5)))) (orT (toB (op2 neD (cb lenD (asCons (rdB 5) asNil)) (kst (.int 2)))) (notT (toTru (callR 3 f_is_within (asCons (op2 ixD (rdB 5) (kst (.int 0))) (asCons (op2 addD (rdB 4) (kst (.int 1))) (asCons (op2 subD (cb lenD (asCons (rdB 0) asNil)) (kst (.int 1))) asNil)))))))) (retS (kst (.bool false))) SO.nx)
    (seqS (ifS (notT (toTru (callR 3 f_is_within (asCons (op2 ixD (rdB 5) (kst (.int 1))) (asCons (kst (.int 0)) (asCons (op2 subD (op2 ixD (rdB 0) (op2 ixD (rdB 5) (kst (.int 0)))) (kst (.int 1))) asNil)))))) (retS (kst (.bool false))) SO.nx)
    (setS 4 (op2 ixD (rdB 5) (kst (.int 0))))))
def g_is_meeting : Rho → SO := (seqS (ifS (orT (notT (toTru (isiR "tuple" (rdB 1)))) (notT (toB (chV leD leD (rdB 2) (cb lenD (asCons (rdB 1) asNil)) (rdB 3))))) (retS (kst (.bool false))) SO.nx)
    (seqS (setS 4 (negR (kst (.int 1))))
    (seqS (forS (toSeq (rd 1)) (tgName 5) g_is_meeting_b1)
    (retS (kst (.bool true))))))
def f_is_meeting : List D → RO := runD 6 g_is_meeting
def g_rows_in_b1 : Rho → SO := (setS 1 (op2 mulD (rdB 1) (rdB 2)))
def g_rows_in : Rho → SO := (seqS (setS 1 (kst (.int 1)))
    (seqS (forS (toSeq (rd 0)) (tgName 2) g_rows_in_b1)
    (retS (rd 1))))
def f_rows_in : List D → RO := runD 3 g_rows_in
def g_is_book_c1 : Rho → Res Bool := (notT (toTru (callR 3 f_is_within (asCons (rd 3) (asCons (kst (.int 1)) (asCons (kst (.int 4)) asNil))))))
def g_is_book_c2 : Rho → Res Bool := (notT (toTru (callR 4 f_is_meeting (asCons (rd 1) (asCons (rd 4) (asCons (kst (.int 1)) (asCons (kst (.int 3)) asNil)))))))
def g_is_book : Rho → SO := (seqS (ifS (orT (notT (toTru (isiR "tuple" (rdB 0)))) (orT (toB (op2 neD (cb lenD (asCons (rdB 0) asNil)) (kst (.int 2)))) (notT (toTru (isiR "tuple" (op2 ixD (rdB 0) (kst (.int 0)))))))) (retS (kst (.bool false))) SO.nx)
    (seqS (tgtS (tgPair 1 2) (rd 0))
    (seqS (ifS (orT (notT (toB (chV leD leD (kst (.int 1)) (cb lenD (asCons (rdB 1) asNil)) (kst (.int 6))))) (toTru (frz (lc (toSeq (rdB 1)) (tgName 3) g_is_book_c1 (rd 3) [3])))) (retS (kst (.bool false))) SO.nx)
    (seqS (ifS (orT (toB (op2 gtD (callR 1 f_rows_in (asCons (rd 1) asNil)) (kst (.int 400)))) (orT (notT (toTru (isiR "tuple" (rdB 2)))) (toB (op2 gtD (cb lenD (asCons (rdB 2) asNil)) (kst (.int 12)))))) (retS (kst (.bool false))) SO.nx)
    (retS (ofB (notT (toTru (frz (lc (toSeq (rdB 2)) (tgName 4) g_is_book_c2 (rd 4) [4]))))))))))
def f_is_book : List D → RO := runD 5 g_is_book
def g_checked : Rho → SO := (seqS (ifS (notT (toTru (callR 1 f_is_book (asCons (rd 0) asNil)))) (raiseS "BadBook") SO.nx)
    (retS (rd 0)))
def f_checked : List D → RO := runD 1 g_checked
def g_look_strength : Rho → SO := (seqS (dropS (callR 1 f_checked (asCons (rd 0) asNil)))
    (ifS (notT (toTru (callR 3 f_is_within (asCons (rd 1) (asCons (kst (.int 1)) (asCons (cb minD (asCons (kst (.int 3)) (asCons (cb lenD (asCons (op2 ixD (rdB 0) (kst (.int 0))) asNil)) asNil))) asNil)))))) (raiseS "BadStrength") SO.nx))
def f_look_strength : List D → RO := runD 2 g_look_strength
def g_meets_c1 : Rho → Res Bool := (toB (op2 neD (op2 ixD (rdB 0) (op2 ixD (rdB 2) (kst (.int 0)))) (op2 ixD (rdB 2) (kst (.int 1)))))
def g_meets : Rho → SO := (retS (ofB (notT (toTru (frz (lc (toSeq (rdB 1)) (tgName 2) g_meets_c1 (rd 2) [2]))))))
def f_meets : List D → RO := runD 3 g_meets
def g_is_allowed_c1 : Rho → Res Bool := (toTru (callR 2 f_meets (asCons (rd 1) (asCons (rd 2) asNil))))
def g_is_allowed : Rho → SO := (retS (ofB (notT (toTru (frz (lc (toSeq (op2 ixD (rdB 0) (kst (.int 1)))) (tgName 2) g_is_allowed_c1 (rd 2) [2]))))))
def f_is_allowed : List D → RO := runD 3 g_is_allowed
def g_rows_of_e1 : Rho → Res D := (op2 addD (rdB 4) (dispT (asCons (rd 5) asNil)))
def g_rows_of_b1 : Rho → SO := (extS 3 (frz (lc (cb rng1 (asCons (rdB 2) asNil)) (tgName 5) yes g_rows_of_e1 [5])))
def g_rows_of_b2 : Rho → SO := (seqS (setO 3 (disp asNil))
    (seqS (forS (toSeq (rd 1)) (tgName 4) g_rows_of_b1)
    (fun ρ => (setS 1 (rd 3)) (frzAt 3 ρ))))
def g_rows_of : Rho → SO := (seqS (setS 1 (frz (disp (asCons (dispT asNil) asNil))))
    (seqS (forS (toSeq (rd 0)) (tgName 2) g_rows_of_b2)
    (retS (rd 1))))
def f_rows_of : List D → RO := runD 6 g_rows_of
def g_tests_of_c1 : Rho → Res Bool := (toTru (callR 2 f_is_allowed (asCons (rd 0) (asCons (rd 1) asNil))))
def g_tests_of : Rho → SO := (retO (lc (toSeq (callR 1 f_rows_of (asCons (op2 ixD (rdB 0) (kst (.int 0))) asNil))) (tgName 1) g_tests_of_c1 (rd 1) [1]))
def f_tests_of : List D → RO := runD 2 g_tests_of
def g_all_tests : Rho → SO := (retO (callO 1 f_tests_of (asCons (callR 1 f_checked (asCons (rd 0) asNil)) asNil)))
def f_all_tests : List D → RO := runD 1 g_all_tests
def g_chosen_e1 (fD : List D → RO) : Rho → Res D := (op2 addD (dispT (asCons (rd 4) asNil)) (rdB 5))
def g_chosen_b1 (fD : List D → RO) : Rho → SO := (extS 3 (frz (lc (toSeq (callR 3 fD (asCons (rd 0) (asCons (op2 addD (rdB 4) (kst (.int 1))) (asCons (op2 subD (rdB 2) (kst (.int 1))) asNil))))) (tgName 5) yes (g_chosen_e1 fD) [5])))
def g_chosen (fD : List D → RO) : Rho → SO := (seqS (ifS (toB (op2 eqD (rdB 2) (kst (.int 0)))) (retO (disp (asCons (dispT asNil) asNil))) SO.nx)
    (seqS (setO 3 (disp asNil))
    (seqS (forS (cb rng2 (asCons (rdB 1) (asCons (rdB 0) asNil))) (tgName 4) (g_chosen_b1 fD))
    (retV 3))))
def f_chosen : List D → RO := recD 6 g_chosen 6
def g_meetings_of_e1 : Rho → Res D := (op2 addD (rdB 7) (dispT (asCons (dispT (asCons (rd 5) (asCons (rd 8) asNil))) asNil)))
def g_meetings_of_b1 : Rho → SO := (extS 6 (frz (lc (cb rng1 (asCons (op2 ixD (rdB 0) (rdB 5)) asNil)) (tgName 8) yes g_meetings_of_e1 [8])))
def g_meetings_of_b2 : Rho → SO := (seqS (setO 6 (disp asNil))
    (seqS (forS (toSeq (rd 4)) (tgName 7) g_meetings_of_b1)
    (fun ρ => (setS 4 (rd 6)) (frzAt 6 ρ))))
def g_meetings_of_b3 : Rho → SO := (seqS (setS 4 (frz (disp (asCons (dispT asNil) asNil))))
    (seqS (forS (toSeq (rd 3)) (tgName 5) g_meetings_of_b2)
    (extS 2 (rdB 4))))
def g_meetings_of : Rho → SO := (seqS (setO 2 (disp asNil))
    (seqS (forS (toSeq (callR 3 f_chosen (asCons (cb lenD (asCons (rdB 0) asNil)) (asCons (kst (.int 0)) (asCons (rd 1) asNil))))) (tgName 3) g_meetings_of_b3)
    (retO (cb sortedD (asCons (rdB 2) asNil)))))
def f_meetings_of : List D → RO := runD 9 g_meetings_of
def g_all_meetings : Rho → SO := (seqS (dropS (callR 2 f_look_strength (asCons (rd 0) (asCons (rd 1) asNil))))
    (retO (callO 2 f_meetings_of (asCons (op2 ixD (rdB 0) (kst (.int 0))) (asCons (rd 1) asNil)))))
def f_all_meetings : List D → RO := runD 2 g_all_meetings
def g_possible_of_c1 : Rho → Res Bool := (toTru (callR 2 f_meets (asCons (rd 4) (asCons (rd 3) asNil))))
def g_possible_of_c2 : Rho → Res Bool := (toTru (frz (lc (toSeq (rdB 2)) (tgName 4) g_possible_of_c1 (rd 4) [4])))
def g_possible_of : Rho → SO := (seqS (setS 2 (callR 1 f_tests_of (asCons (rd 0) asNil)))
    (retO (lc (toSeq (callR 2 f_meetings_of (asCons (op2 ixD (rdB 0) (kst (.int 0))) (asCons (rd 1) asNil)))) (tgName 3) g_possible_of_c2 (rd 3) [3])))
def f_possible_of : List D → RO := runD 5 g_possible_of
def g_possible : Rho → SO := (seqS (dropS (callR 2 f_look_strength (asCons (rd 0) (asCons (rd 1) asNil))))
    (retO (callO 2 f_possible_of (asCons (rd 0) (asCons (rd 1) asNil)))))
def f_possible : List D → RO := runD 2 g_possible
def g_impossible_c1 : Rho → Res Bool := (toB (op2 (inD true) (rdB 3) (rdB 2)))
def g_impossible : Rho → SO := (seqS (dropS (callR 2 f_look_strength (asCons (rd 0) (asCons (rd 1) asNil))))
    (seqS (setS 2 (callR 2 f_possible_of (asCons (rd 0) (asCons (rd 1) asNil))))
    (retO (lc (toSeq (callR 2 f_meetings_of (asCons (op2 ixD (rdB 0) (kst (.int 0))) (asCons (rd 1) asNil)))) (tgName 3) g_impossible_c1 (rd 3) [3]))))
def f_impossible : List D → RO := runD 4 g_impossible
def g_l_cell : Rho → SO := (seqS (ifS (toB (op2 ltD (rdB 1) (cb lenD (asCons (rdB 0) asNil)))) (retS (op2 ixD (rdB 0) (rdB 1))) SO.nx)
    (retS (kst (.int 0))))
def f_l_cell : List D → RO := runD 2 g_l_cell
def g_l_mix : Rho → SO := (retS (op2 modD (op2 modD (op2 mulD (rdB 0) (kst (.int 48271))) (rdB 1)) (rdB 2)))
def f_l_mix : List D → RO := runD 3 g_l_mix
def g_l_book_b1 : Rho → SO := (seqS (setS 6 (kst (.int 2)))
    (seqS (ifS (orT (toB (op2 ltD (rdB 5) (kst (.int 2)))) (toB (op2 gtD (cb lenD (asCons (rdB 0) asNil)) (kst (.int 63))))) (setS 6 (kst (.int 3))) SO.nx)
    (appS 4 (op2 addD (kst (.int 1)) (callR 3 f_l_mix (asCons (op2 addD (op2 addD (callR 2 f_l_cell (asCons (rd 0) (asCons (op2 addD (rdB 1) (kst (.int 1))) asNil))) (op2 mulD (op2 mulD (kst (.int 31)) (rdB 5)) (rdB 5))) (rdB 5)) (asCons (kst (.int 9967)) (asCons (rd 6) asNil))))))))
def g_l_book_c1 : Rho → Res Bool := (toB (op2 eqD (callR 3 f_l_mix (asCons (op2 addD (rdB 8) (op2 mulD (kst (.int 17)) (rdB 9))) (asCons (kst (.int 9941)) (asCons (kst (.int 2)) asNil)))) (kst (.int 1))))
def g_l_book_e1 : Rho → Res D := (dispT (asCons (rd 9) (asCons (callR 3 f_l_mix (asCons (op2 addD (rdB 8) (op2 mulD (kst (.int 5)) (rdB 9))) (asCons (kst (.int 9929)) (asCons (op2 ixD (rdB 4) (rdB 9)) asNil)))) asNil)))
def g_l_book_b2 : Rho → SO := (seqS (setS 8 (op2 addD (op2 addD (callR 2 f_l_cell (asCons (rd 0) (asCons (op2 addD (rdB 1) (kst (.int 2))) asNil))) (op2 mulD (op2 mulD (kst (.int 53)) (rdB 5)) (rdB 5))) (op2 mulD (kst (.int 7)) (rdB 5))))
    (seqS (setS 10 (sl3 cutD (frz (lc (cb rng1 (asCons (rdB 3) asNil)) (tgName 9) g_l_book_c1 (rd 9) [9])) ptN (ptS (kst (.int 3)))))
    (seqS (ifS (toB (op2 eqD (rdB 10) (frz (disp asNil)))) (setS 10 (frz (disp (asCons (callR 3 f_l_mix (asCons (rd 8) (asCons (kst (.int 9931)) (asCons (rd 3) asNil)))) asNil)))) SO.nx)
    (appS 7 (cb toTupD (asCons (frz (lc (toSeq (rdB 10)) (tgName 9) yes g_l_book_e1 [9])) asNil))))))
def g_l_book : Rho → SO := (seqS (setS 2 (callR 2 f_l_cell (asCons (rd 0) (asCons (rd 1) asNil))))
    (seqS (setS 3 (op2 addD (kst (.int 1)) (callR 3 f_l_mix (asCons (rd 2) (asCons (kst (.int 9973)) (asCons (kst (.int 4)) asNil))))))
    (seqS (setO 4 (disp asNil))
    (seqS (forS (cb rng1 (asCons (rdB 3) asNil)) (tgName 5) g_l_book_b1)
    (seqS (setO 7 (disp asNil))
    (seqS (forS (cb rng1 (asCons (callR 3 f_l_mix (asCons (rd 2) (asCons (kst (.int 9949)) (asCons (kst (.int 4)) asNil)))) asNil)) (tgName 5) g_l_book_b2)
    (retS (dispT (asCons (cb toTupD (asCons (rdB 4) asNil)) (asCons (cb toTupD (asCons (rdB 7) asNil)) asNil))))))))))
def f_l_book : List D → RO := runD 11 g_l_book
def g_l_rows_e1 : Rho → Res D := (op2 addD (rdB 4) (dispT (asCons (rd 5) asNil)))
def g_l_rows_b1 : Rho → SO := (setS 3 (op2 addD (rdB 3) (frz (lc (cb rng1 (asCons (rdB 2) asNil)) (tgName 5) yes g_l_rows_e1 [5]))))
def g_l_rows_b2 : Rho → SO := (seqS (setS 3 (frz (disp asNil)))
    (seqS (forS (toSeq (rd 1)) (tgName 4) g_l_rows_b1)
    (setS 1 (rd 3))))
def g_l_rows : Rho → SO := (seqS (setS 1 (frz (disp (asCons (dispT asNil) asNil))))
    (seqS (forS (toSeq (rd 0)) (tgName 2) g_l_rows_b2)
    (retS (rd 1))))
def f_l_rows : List D → RO := runD 6 g_l_rows
def g_l_meets_c1 : Rho → Res Bool := (toB (op2 neD (op2 ixD (rdB 0) (op2 ixD (rdB 2) (kst (.int 0)))) (op2 ixD (rdB 2) (kst (.int 1)))))
def g_l_meets : Rho → SO := (retS (op2 eqD (frz (lc (toSeq (rdB 1)) (tgName 2) g_l_meets_c1 (rd 2) [2])) (frz (disp asNil))))
def f_l_meets : List D → RO := runD 3 g_l_meets
def g_l_tests_c1 : Rho → Res Bool := (toTru (callR 2 f_l_meets (asCons (rd 2) (asCons (rd 3) asNil))))
def g_l_tests_b1 : Rho → SO := (ifS (toB (op2 eqD (frz (lc (toSeq (op2 ixD (rdB 0) (kst (.int 1)))) (tgName 3) g_l_tests_c1 (rd 3) [3])) (frz (disp asNil)))) (appS 1 (rd 2)) SO.nx)
def g_l_tests : Rho → SO := (seqS (setO 1 (disp asNil))
    (seqS (forS (toSeq (callR 1 f_l_rows (asCons (op2 ixD (rdB 0) (kst (.int 0))) asNil))) (tgName 2) g_l_tests_b1)
    (retV 1)))
def f_l_tests : List D → RO := runD 4 g_l_tests
def g_l_meetings_e1 : Rho → Res D := (op2 addD (rdB 7) (dispT (asCons (dispT (asCons (rd 5) (asCons (rd 6) asNil))) asNil)))
def g_l_meetings_b1 : Rho → SO := (setS 4 (op2 addD (rdB 4) (frz (lc (toSeq (rdB 4)) (tgName 7) yes g_l_meetings_e1 [7]))))
def g_l_meetings_b2 : Rho → SO := (ifS (toB (op2 eqD (cb lenD (asCons (rdB 7) asNil)) (rdB 1))) (dputS 2 (rd 7) (kst (.bool true))) SO.nx)
def g_l_meetings_b3 : Rho → SO := (seqS (setS 4 (frz (disp (asCons (dispT asNil) asNil))))
    (seqS (forS (toEnum (rd 3)) (tgPair 5 6) g_l_meetings_b1)
    (forS (toSeq (rd 4)) (tgName 7) g_l_meetings_b2)))
def g_l_meetings : Rho → SO := (seqS (dnewS 2)
    (seqS (forS (toSeq (callR 1 f_l_rows (asCons (op2 ixD (rdB 0) (kst (.int 0))) asNil))) (tgName 3) g_l_meetings_b3)
    (retO (sortedDR 2))))
def f_l_meetings : List D → RO := runD 8 g_l_meetings
def g_l_possible_c1 : Rho → Res Bool := (toTru (callR 2 f_l_meets (asCons (rd 5) (asCons (rd 4) asNil))))
def g_l_possible_b1 : Rho → SO := (ifS (toB (op2 neD (frz (lc (toSeq (rdB 2)) (tgName 5) g_l_possible_c1 (rd 5) [5])) (frz (disp asNil)))) (appS 3 (rd 4)) SO.nx)
def g_l_possible : Rho → SO := (seqS (setS 2 (callR 1 f_l_tests (asCons (rd 0) asNil)))
    (seqS (setO 3 (disp asNil))
    (seqS (forS (toSeq (callR 2 f_l_meetings (asCons (rd 0) (asCons (rd 1) asNil)))) (tgName 4) g_l_possible_b1)
    (retV 3))))
def f_l_possible : List D → RO := runD 6 g_l_possible
def g_l_strength : Rho → SO := (retS (cb minD (asCons (op2 ixD (frz (disp (asCons (kst (.int 2)) (asCons (kst (.int 2)) (asCons (kst (.int 1)) (asCons (kst (.int 3)) asNil)))))) (op2 modD (rdB 1) (kst (.int 4)))) (asCons (cb lenD (asCons (op2 ixD (rdB 0) (kst (.int 0))) asNil)) asNil))))
def f_l_strength : List D → RO := runD 2 g_l_strength
def g_law_03_c1 : Rho → Res Bool := (toB (op2 (inD true) (rdB 5) (rdB 4)))
def g_law_03 : Rho → SO := (seqS (setS 1 (callR 2 f_l_book (asCons (rd 0) (asCons (kst (.int 1)) asNil))))
    (seqS (setS 2 (callR 2 f_l_strength (asCons (rd 1) (asCons (callR 2 f_l_cell (asCons (rd 0) (asCons (kst (.int 0)) asNil))) asNil))))
    (seqS (setS 3 (callR 1 f_all_tests (asCons (rd 1) asNil)))
    (seqS (ifS (orT (notT (toTru (isiR "list" (rdB 3)))) (toB (op2 neD (rdB 3) (callR 1 f_l_tests (asCons (rd 1) asNil))))) (retS (kst (.bool false))) SO.nx)
    (seqS (ifS (toB (op2 neD (callR 2 f_all_meetings (asCons (rd 1) (asCons (rd 2) asNil))) (callR 2 f_l_meetings (asCons (rd 1) (asCons (rd 2) asNil))))) (retS (kst (.bool false))) SO.nx)
    (seqS (setS 4 (callR 2 f_l_possible (asCons (rd 1) (asCons (rd 2) asNil))))
    (seqS (ifS (toB (op2 neD (callR 2 f_possible (asCons (rd 1) (asCons (rd 2) asNil))) (rdB 4))) (retS (kst (.bool false))) SO.nx)
    (retS (op2 eqD (callR 2 f_impossible (asCons (rd 1) (asCons (rd 2) asNil))) (frz (lc (toSeq (callR 2 f_l_meetings (asCons (rd 1) (asCons (rd 2) asNil)))) (tgName 5) g_law_03_c1 (rd 5) [5])))))))))))
def f_law_03 : List D → RO := runD 6 g_law_03
def g_whole_bans_c1 : Rho → Res Bool := (toB (op2 (inD true) (rdB 5) (rdB 3)))
def g_whole_bans_c2 : Rho → Res Bool := (notT (toTru (frz (lc (toSeq (rdB 4)) (tgName 5) g_whole_bans_c1 (rd 5) [5]))))
def g_whole_bans_b1 : Rho → SO := (ifS (notT (toTru (frz (lc (toSeq (rdB 1)) (tgName 4) g_whole_bans_c2 (rd 4) [4])))) (appS 1 (rd 3)) SO.nx)
def g_whole_bans_b2 : Rho → SO := (forS (toSeq (callR 2 f_impossible (asCons (rd 0) (asCons (rd 2) asNil)))) (tgName 3) g_whole_bans_b1)
def g_whole_bans : Rho → SO := (seqS (dropS (callR 2 f_look_strength (asCons (rd 0) (asCons (kst (.int 1)) asNil))))
    (seqS (setO 1 (disp asNil))
    (seqS (forS (cb rng2 (asCons (kst (.int 1)) (asCons (op2 addD (cb minD (asCons (kst (.int 3)) (asCons (cb lenD (asCons (op2 ixD (rdB 0) (kst (.int 0))) asNil)) asNil))) (kst (.int 1))) asNil))) (tgName 2) g_whole_bans_b2)
    (retV 1))))
def f_whole_bans : List D → RO := runD 6 g_whole_bans
def g_law_04_c1 : Rho → Res Bool := (toB (op2 (inD true) (rdB 8) (rdB 6)))
def g_law_04_c2 : Rho → Res Bool := (toB (op2 eqD (frz (lc (toSeq (rdB 7)) (tgName 8) g_law_04_c1 (rd 8) [8])) (frz (disp asNil))))
def g_law_04_b1 : Rho → SO := (ifS (toB (op2 (inD true) (rdB 6) (rdB 5))) (seqS (setS 9 (frz (lc (toSeq (rdB 3)) (tgName 7) g_law_04_c2 (rd 7) [7])))
    (ifS (toB (op2 eqD (rdB 9) (frz (disp asNil)))) (appS 3 (rd 6)) SO.nx)) SO.nx)
def g_law_04_b2 : Rho → SO := (seqS (setS 5 (callR 2 f_l_possible (asCons (rd 1) (asCons (rd 4) asNil))))
    (forS (toSeq (callR 2 f_l_meetings (asCons (rd 1) (asCons (rd 4) asNil)))) (tgName 6) g_law_04_b1))
def g_law_04_c3 : Rho → Res Bool := (toTru (callR 2 f_l_meets (asCons (rd 12) (asCons (rd 6) asNil))))
def g_law_04_b3 : Rho → SO := (seqS (setS 13 (op2 neD (frz (lc (toSeq (rdB 10)) (tgName 6) g_law_04_c3 (rd 6) [6])) (frz (disp asNil))))
    (ifS (orT (andT (toTru (rdB 13)) (toB (op2 (inD false) (rdB 12) (rdB 11)))) (andT (toB (op2 ltD (cb lenD (asCons (op2 ixD (rdB 1) (kst (.int 0))) asNil)) (kst (.int 4)))) (toB (op2 eqD (rdB 13) (op2 (inD false) (rdB 12) (rdB 11)))))) (retS (kst (.bool false))) SO.nx))
def g_law_04_c4 : Rho → Res Bool := (toB (op2 (inD true) (rdB 8) (rdB 14)))
def g_law_04_c5 : Rho → Res Bool := (toB (op2 eqD (frz (lc (toSeq (rdB 6)) (tgName 8) g_law_04_c4 (rd 8) [8])) (frz (disp asNil))))
def g_law_04_b4 : Rho → SO := (ifS (toB (op2 eqD (frz (lc (toSeq (rdB 10)) (tgName 6) g_law_04_c5 (rd 6) [6])) (frz (disp asNil)))) (retS (kst (.bool false))) SO.nx)
def g_law_04 : Rho → SO := (seqS (setS 1 (callR 2 f_l_book (asCons (rd 0) (asCons (kst (.int 0)) asNil))))
    (seqS (setS 2 (cb minD (asCons (kst (.int 3)) (asCons (cb lenD (asCons (op2 ixD (rdB 1) (kst (.int 0))) asNil)) asNil))))
    (seqS (setO 3 (disp asNil))
    (seqS (forS (cb rng2 (asCons (kst (.int 1)) (asCons (op2 addD (rdB 2) (kst (.int 1))) asNil))) (tgName 4) g_law_04_b2)
    (seqS (setS 10 (callR 1 f_whole_bans (asCons (rd 1) asNil)))
    (seqS (ifS (orT (notT (toTru (isiR "list" (rdB 10)))) (toB (op2 neD (rdB 10) (rdB 3)))) (retS (kst (.bool false))) SO.nx)
    (seqS (setS 11 (callR 1 f_l_tests (asCons (rd 1) asNil)))
    (seqS (forS (toSeq (callR 1 f_l_rows (asCons (op2 ixD (rdB 1) (kst (.int 0))) asNil))) (tgName 12) g_law_04_b3)
    (seqS (forS (toSeq (op2 ixD (rdB 1) (kst (.int 1)))) (tgName 14) g_law_04_b4)
    (retS (kst (.bool true))))))))))))
def f_law_04 : List D → RO := runD 15 g_law_04
def g_is_row_c1 : Rho → Res Bool := (notT (toTru (callR 3 f_is_within (asCons (op2 ixD (rdB 1) (rdB 2)) (asCons (kst (.int 0)) (asCons (op2 subD (op2 ixD (rdB 0) (rdB 2)) (kst (.int 1))) asNil))))))
def g_is_row : Rho → SO := (seqS (ifS (orT (notT (toTru (isiR "tuple" (rdB 1)))) (toB (op2 neD (cb lenD (asCons (rdB 1) asNil)) (cb lenD (asCons (rdB 0) asNil))))) (retS (kst (.bool false))) SO.nx)
    (retS (ofB (notT (toTru (frz (lc (cb rng1 (asCons (cb lenD (asCons (rdB 0) asNil)) asNil)) (tgName 2) g_is_row_c1 (rd 2) [2])))))))
def f_is_row : List D → RO := runD 3 g_is_row
def g_look_tests_b1 : Rho → SO := (ifS (orT (notT (toTru (callR 2 f_is_row (asCons (op2 ixD (rdB 0) (kst (.int 0))) (asCons (rd 3) asNil))))) (notT (toTru (callR 2 f_is_allowed (asCons (rd 0) (asCons (rd 3) asNil)))))) (raiseB (rd 2)) SO.nx)
def g_look_tests : Rho → SO := (seqS (ifS (notT (toTru (isiR "list" (rdB 1)))) (raiseB (kst (.int 0))) SO.nx)
    (forS (toEnum (rd 1)) (tgPair 2 3) g_look_tests_b1))
def f_look_tests : List D → RO := runD 4 g_look_tests
def g_look_cover : Rho → SO := (seqS (dropS (callR 2 f_look_strength (asCons (rd 0) (asCons (rd 1) asNil))))
    (dropS (callR 2 f_look_tests (asCons (rd 0) (asCons (rd 2) asNil)))))
def f_look_cover : List D → RO := runD 3 g_look_cover
def g_unmet_c1 : Rho → Res Bool := (toTru (callR 2 f_meets (asCons (rd 3) (asCons (rd 2) asNil))))
def g_unmet_c2 : Rho → Res Bool := (notT (toTru (frz (lc (toSeq (rdB 1)) (tgName 3) g_unmet_c1 (rd 3) [3]))))
def g_unmet : Rho → SO := (retO (lc (toSeq (rdB 0)) (tgName 2) g_unmet_c2 (rd 2) [2]))
def f_unmet : List D → RO := runD 4 g_unmet
def g_missing : Rho → SO := (seqS (dropS (callR 3 f_look_cover (asCons (rd 0) (asCons (rd 1) (asCons (rd 2) asNil)))))
    (retO (callO 2 f_unmet (asCons (callR 2 f_possible_of (asCons (rd 0) (asCons (rd 1) asNil))) (asCons (rd 2) asNil)))))
def f_missing : List D → RO := runD 3 g_missing
def g_is_cover : Rho → SO := (retS (ofB (notT (toTru (callR 3 f_missing (asCons (rd 0) (asCons (rd 1) (asCons (rd 2) asNil))))))))
def f_is_cover : List D → RO := runD 3 g_is_cover
def g_without : Rho → SO := (retO (op2 catD (sl3 cutD (rdB 0) ptN (ptS (rdB 1))) (sl3 cutD (rdB 0) (ptS (op2 addD (rdB 1) (kst (.int 1)))) ptN)))
def f_without : List D → RO := runD 2 g_without
def g_needless_c1 : Rho → Res Bool := (toB (op2 eqD (callR 2 f_unmet (asCons (rd 4) (asCons (callR 2 f_without (asCons (rd 2) (asCons (rd 5) asNil))) asNil))) (rdB 3)))
def g_needless : Rho → SO := (seqS (dropS (callR 3 f_look_cover (asCons (rd 0) (asCons (rd 1) (asCons (rd 2) asNil)))))
    (seqS (setS 3 (callR 2 f_unmet (asCons (callR 2 f_possible_of (asCons (rd 0) (asCons (rd 1) asNil))) (asCons (rd 2) asNil))))
    (seqS (setS 4 (callR 2 f_possible_of (asCons (rd 0) (asCons (rd 1) asNil))))
    (retO (lc (cb rng1 (asCons (cb lenD (asCons (rdB 2) asNil)) asNil)) (tgName 5) g_needless_c1 (rd 5) [5])))))
def f_needless : List D → RO := runD 6 g_needless
def g_trimmed_of_b1 : Rho → SO := (ifS (toB (op2 eqD (callR 2 f_unmet (asCons (rd 0) (asCons (frz (lendO 2 (callO 2 f_without (asCons (rd 2) (asCons (rd 4) asNil))))) asNil))) (rdB 3))) (setO 2 (lendO 2 (callO 2 f_without (asCons (rd 2) (asCons (rd 4) asNil))))) SO.nx)
def g_trimmed_of : Rho → SO := (seqS (setO 2 (cb toListD (asCons (rdB 1) asNil)))
    (seqS (setS 3 (callR 2 f_unmet (asCons (rd 0) (asCons (rd 1) asNil))))
    (seqS (forS (cb rng3 (asCons (op2 subD (cb lenD (asCons (rdB 1) asNil)) (kst (.int 1))) (asCons (negR (kst (.int 1))) (asCons (negR (kst (.int 1))) asNil)))) (tgName 4) g_trimmed_of_b1)
    (retV 2))))
def f_trimmed_of : List D → RO := runD 5 g_trimmed_of
def g_trimmed : Rho → SO := (seqS (dropS (callR 3 f_look_cover (asCons (rd 0) (asCons (rd 1) (asCons (rd 2) asNil)))))
    (retO (callO 2 f_trimmed_of (asCons (callR 2 f_possible_of (asCons (rd 0) (asCons (rd 1) asNil))) (asCons (rd 2) asNil)))))
def f_trimmed : List D → RO := runD 3 g_trimmed
def g_l_left_c1 : Rho → Res Bool := (toTru (callR 2 f_l_meets (asCons (rd 4) (asCons (rd 3) asNil))))
def g_l_left_b1 : Rho → SO := (ifS (toB (op2 eqD (frz (lc (toSeq (rdB 1)) (tgName 4) g_l_left_c1 (rd 4) [4])) (frz (disp asNil)))) (appS 2 (rd 3)) SO.nx)
def g_l_left : Rho → SO := (seqS (setO 2 (disp asNil))
    (seqS (forS (toSeq (rd 0)) (tgName 3) g_l_left_b1)
    (retV 2)))
def f_l_left : List D → RO := runD 5 g_l_left
def g_l_drawn_b1 : Rho → SO := (appS 5 (op2 ixD (rdB 4) (callR 3 f_l_mix (asCons (op2 addD (op2 addD (callR 2 f_l_cell (asCons (rd 0) (asCons (rd 1) asNil))) (op2 mulD (op2 mulD (kst (.int 29)) (rdB 6)) (rdB 6))) (rdB 6)) (asCons (kst (.int 9907)) (asCons (cb lenD (asCons (rdB 4) asNil)) asNil))))))
def g_l_drawn : Rho → SO := (seqS (setS 4 (callR 1 f_l_tests (asCons (rd 2) asNil)))
    (seqS (setO 5 (disp asNil))
    (seqS (ifS (toB (op2 neD (rdB 4) (frz (disp asNil)))) (forS (cb rng1 (asCons (callR 3 f_l_mix (asCons (callR 2 f_l_cell (asCons (rd 0) (asCons (rd 1) asNil))) (asCons (kst (.int 9923)) (asCons (op2 addD (rdB 3) (kst (.int 1))) asNil)))) asNil)) (tgName 6) g_l_drawn_b1) SO.nx)
    (retV 5))))
def f_l_drawn : List D → RO := runD 7 g_l_drawn
def g_law_05_b1 : Rho → SO := (ifS (toB (op2 eqD (callR 2 f_l_left (asCons (rd 5) (asCons (op2 addD (sl3 cutD (rdB 3) ptN (ptS (rdB 8))) (sl3 cutD (rdB 3) (ptS (op2 addD (rdB 8) (kst (.int 1)))) ptN)) asNil))) (rdB 6))) (appS 7 (rd 8)) SO.nx)
def g_law_05_b2 : Rho → SO := (ifS (toB (op2 eqD (callR 2 f_l_left (asCons (rd 5) (asCons (op2 addD (sl3 cutD (rdB 9) ptN (ptS (rdB 8))) (sl3 cutD (rdB 9) (ptS (op2 addD (rdB 8) (kst (.int 1)))) ptN)) asNil))) (rdB 6))) (dropE (popAtD 9 (rdB 8))) SO.nx)
def g_law_05 : Rho → SO := (seqS (setS 1 (callR 2 f_l_book (asCons (rd 0) (asCons (kst (.int 2)) asNil))))
    (seqS (setS 2 (callR 2 f_l_strength (asCons (rd 1) (asCons (callR 2 f_l_cell (asCons (rd 0) (asCons (kst (.int 0)) asNil))) asNil))))
    (seqS (setS 3 (callR 4 f_l_drawn (asCons (rd 0) (asCons (kst (.int 5)) (asCons (rd 1) (asCons (kst (.int 7)) asNil))))))
    (seqS (setS 4 (frz (cb toListD (asCons (rdB 3) asNil))))
    (seqS (setS 5 (callR 2 f_l_possible (asCons (rd 1) (asCons (rd 2) asNil))))
    (seqS (setS 6 (callR 2 f_l_left (asCons (rd 5) (asCons (rd 3) asNil))))
    (seqS (ifS (orT (toB (op2 neD (callR 3 f_missing (asCons (rd 1) (asCons (rd 2) (asCons (rd 3) asNil)))) (rdB 6))) (toB (op2 neD (callR 3 f_is_cover (asCons (rd 1) (asCons (rd 2) (asCons (rd 3) asNil)))) (op2 eqD (rdB 6) (frz (disp asNil)))))) (retS (kst (.bool false))) SO.nx)
    (seqS (setO 7 (disp asNil))
    (seqS (forS (cb rng1 (asCons (cb lenD (asCons (rdB 3) asNil)) asNil)) (tgName 8) g_law_05_b1)
    (seqS (ifS (toB (op2 neD (callR 3 f_needless (asCons (rd 1) (asCons (rd 2) (asCons (rd 3) asNil)))) (rdB 7))) (retS (kst (.bool false))) SO.nx)
    (seqS (setO 9 (cb toListD (asCons (rdB 3) asNil)))
    (seqS (forS (cb rng3 (asCons (op2 subD (cb lenD (asCons (rdB 3) asNil)) (kst (.int 1))) (asCons (negR (kst (.int 1))) (asCons (negR (kst (.int 1))) asNil)))) (tgName 8) g_law_05_b2)
    (seqS (setS 10 (callR 3 f_trimmed (asCons (rd 1) (asCons (rd 2) (asCons (rd 3) asNil)))))
    (retS (andV (isiR "list" (rdB 10)) (andV (op2 eqD (rdB 10) (rdB 9)) (op2 eqD (rdB 3) (rdB 4))))))))))))))))))
def f_law_05 : List D → RO := runD 11 g_law_05
def g_new_met_c1 : Rho → Res Bool := (toTru (callR 2 f_meets (asCons (rd 1) (asCons (rd 2) asNil))))
def g_new_met : Rho → SO := (retS (cb lenD (asCons (frz (lc (toSeq (rdB 0)) (tgName 2) g_new_met_c1 (rd 2) [2])) asNil)))
def f_new_met : List D → RO := runD 3 g_new_met
def g_in_order_e1 : Rho → Res D := (callR 2 f_new_met (asCons (rd 3) (asCons (rd 6) asNil)))
def g_in_order_w1 : Rho → Res Bool := (toTru (rdB 4))
def g_in_order_b1 : Rho → SO := (seqS (setS 7 (frz (lc (toSeq (rdB 4)) (tgName 6) yes g_in_order_e1 [6])))
    (seqS (setE 6 (popAtD 4 (idxR (rdB 7) (cb maxLD (asCons (rdB 7) asNil)))))
    (seqS (appS 5 (rd 6))
    (setS 3 (callR 2 f_unmet (asCons (rd 3) (asCons (frz (disp (asCons (rd 6) asNil))) asNil)))))))
def g_in_order : Rho → SO := (seqS (dropS (callR 3 f_look_cover (asCons (rd 0) (asCons (rd 1) (asCons (rd 2) asNil)))))
    (seqS (setS 3 (callR 2 f_possible_of (asCons (rd 0) (asCons (rd 1) asNil))))
    (seqS (setO 4 (cb toListD (asCons (rdB 2) asNil)))
    (seqS (setO 5 (disp asNil))
    (seqS (whileS g_in_order_w1 g_in_order_b1)
    (retV 5))))))
def f_in_order : List D → RO := runD 8 g_in_order
def g_law_06_e1 : Rho → Res D := (op2 subD (cb lenD (asCons (rdB 5) asNil)) (cb lenD (asCons (callR 2 f_l_left (asCons (rd 5) (asCons (frz (disp (asCons (rd 9) asNil))) asNil))) asNil)))
def g_law_06_w1 : Rho → Res Bool := (toB (op2 neD (rdB 6) (frz (disp asNil))))
def g_law_06_b1 : Rho → SO := (seqS (setS 10 (frz (lc (toSeq (rdB 6)) (tgName 9) yes g_law_06_e1 [9])))
    (seqS (setS 11 (idxR (rdB 10) (cb maxLD (asCons (rdB 10) asNil))))
    (seqS (appS 8 (op2 ixD (rdB 10) (rdB 11)))
    (seqS (setS 5 (callR 2 f_l_left (asCons (rd 5) (asCons (frz (disp (asCons (op2 ixD (rdB 6) (rdB 11)) asNil))) asNil))))
    (appX 7 (popAtD 6 (rdB 11)))))))
def g_law_06 : Rho → SO := (seqS (setS 1 (callR 2 f_l_book (asCons (rd 0) (asCons (kst (.int 2)) asNil))))
    (seqS (setS 2 (callR 2 f_l_strength (asCons (rd 1) (asCons (callR 2 f_l_cell (asCons (rd 0) (asCons (kst (.int 0)) asNil))) asNil))))
    (seqS (setS 3 (callR 4 f_l_drawn (asCons (rd 0) (asCons (kst (.int 5)) (asCons (rd 1) (asCons (kst (.int 7)) asNil))))))
    (seqS (setS 4 (frz (cb toListD (asCons (rdB 3) asNil))))
    (seqS (setS 5 (callR 2 f_l_possible (asCons (rd 1) (asCons (rd 2) asNil))))
    (seqS (setO 6 (cb toListD (asCons (rdB 3) asNil)))
    (seqS (setO 7 (disp asNil))
    (seqS (setO 8 (disp asNil))
    (seqS (whileS g_law_06_w1 g_law_06_b1)
    (seqS (setS 12 (callR 3 f_in_order (asCons (rd 1) (asCons (rd 2) (asCons (rd 3) asNil)))))
    (seqS (ifS (orT (notT (toTru (isiR "list" (rdB 12)))) (orT (toB (op2 neD (rdB 12) (rdB 7))) (toB (op2 neD (rdB 3) (rdB 4))))) (retS (kst (.bool false))) SO.nx)
    (retS (andV (op2 eqD (rdB 8) (frz (revR (frz (cb sortedD (asCons (rdB 8) asNil)))))) (op2 eqD (callR 3 f_missing (asCons (rd 1) (asCons (rd 2) (asCons (rd 12) asNil)))) (rdB 5)))))))))))))))
def f_law_06 : List D → RO := runD 13 g_law_06
def g_filled_e1 : Rho → Res D := (callR 2 f_new_met (asCons (rd 4) (asCons (rd 6) asNil)))
def g_filled_w1 : Rho → Res Bool := (toTru (rdB 4))
def g_filled_b1 : Rho → SO := (seqS (setS 7 (frz (lc (toSeq (rdB 5)) (tgName 6) yes g_filled_e1 [6])))
    (seqS (appS 3 (op2 ixD (rdB 5) (idxR (rdB 7) (cb maxLD (asCons (rdB 7) asNil)))))
    (setS 4 (callR 2 f_unmet (asCons (rd 4) (asCons (sl3 cutD (rdB 3) (ptS (negR (kst (.int 1)))) ptN) asNil))))))
def g_filled : Rho → SO := (seqS (setO 3 (cb toListD (asCons (rdB 2) asNil)))
    (seqS (setS 4 (frz (lendO 3 (callO 2 f_unmet (asCons (rd 1) (asCons (rd 3) asNil))))))
    (seqS (setS 5 (callR 1 f_tests_of (asCons (rd 0) asNil)))
    (seqS (whileS g_filled_w1 g_filled_b1)
    (retV 3)))))
def f_filled : List D → RO := runD 8 g_filled
def g_built : Rho → SO := (seqS (dropS (callR 2 f_look_strength (asCons (rd 0) (asCons (rd 1) asNil))))
    (seqS (setS 2 (callR 2 f_possible_of (asCons (rd 0) (asCons (rd 1) asNil))))
    (retO (callO 2 f_trimmed_of (asCons (rd 2) (asCons (callR 3 f_filled (asCons (rd 0) (asCons (rd 2) (asCons (frz (disp asNil)) asNil)))) asNil))))))
def f_built : List D → RO := runD 3 g_built
def g_law_08_c1 : Rho → Res Bool := (toB (op2 (inD true) (rdB 10) (rdB 9)))
def g_law_08_c2 : Rho → Res Bool := (toB (op2 eqD (frz (lc (toSeq (rdB 8)) (tgName 10) g_law_08_c1 (rd 10) [10])) (frz (disp asNil))))
def g_law_08_b1 : Rho → SO := (ifS (toB (op2 eqD (frz (lc (toSeq (rdB 6)) (tgName 9) g_law_08_c2 (rd 9) [9])) (frz (disp asNil)))) (retS (kst (.bool false))) SO.nx)
def g_law_08_c3 : Rho → Res Bool := (toB (op2 (inD true) (rdB 10) (rdB 9)))
def g_law_08_c4 : Rho → Res Bool := (toB (op2 eqD (frz (lc (toSeq (rdB 8)) (tgName 10) g_law_08_c3 (rd 10) [10])) (frz (disp asNil))))
def g_law_08_c5 : Rho → Res Bool := (toB (op2 (inD true) (rdB 8) (rdB 7)))
def g_law_08_b2 : Rho → SO := (seqS (setS 11 (frz (lc (toSeq (callR 2 f_l_meetings (asCons (rd 1) (asCons (rd 4) asNil)))) (tgName 8) g_law_08_c4 (rd 8) [8])))
    (ifS (toTru (frz (lc (toSeq (rdB 11)) (tgName 8) g_law_08_c5 (rd 8) [8]))) (retS (kst (.bool false))) SO.nx))
def g_law_08 : Rho → SO := (seqS (setS 1 (callR 2 f_l_book (asCons (rd 0) (asCons (kst (.int 2)) asNil))))
    (seqS (setS 2 (cb minD (asCons (kst (.int 3)) (asCons (cb lenD (asCons (op2 ixD (rdB 1) (kst (.int 0))) asNil)) asNil))))
    (seqS (setS 3 (op2 addD (kst (.int 1)) (op2 modD (callR 2 f_l_cell (asCons (rd 0) (asCons (kst (.int 0)) asNil))) (rdB 2))))
    (seqS (setS 4 (op2 addD (kst (.int 1)) (op2 modD (callR 2 f_l_cell (asCons (rd 0) (asCons (kst (.int 1)) asNil))) (rdB 3))))
    (seqS (setS 5 (callR 2 f_built (asCons (rd 1) (asCons (rd 3) asNil))))
    (seqS (ifS (orT (notT (toTru (callR 3 f_is_cover (asCons (rd 1) (asCons (rd 4) (asCons (rd 5) asNil)))))) (notT (toTru (callR 3 f_is_cover (asCons (rd 1) (asCons (rd 3) (asCons (op2 addD (frz (revR (rdB 5))) (rdB 5)) asNil))))))) (retS (kst (.bool false))) SO.nx)
    (seqS (ifS (orT (toB (op2 neD (callR 3 f_trimmed (asCons (rd 1) (asCons (rd 3) (asCons (rd 5) asNil)))) (rdB 5))) (toB (op2 neD (callR 3 f_needless (asCons (rd 1) (asCons (rd 3) (asCons (rd 5) asNil)))) (frz (disp asNil))))) (retS (kst (.bool false))) SO.nx)
    (seqS (ifS (toB (op2 neD (frz (cb sortedD (asCons (callR 3 f_in_order (asCons (rd 1) (asCons (rd 3) (asCons (rd 5) asNil)))) asNil))) (frz (cb sortedD (asCons (rdB 5) asNil))))) (retS (kst (.bool false))) SO.nx)
    (seqS (ifS (notT (toTru (callR 3 f_is_cover (asCons (rd 1) (asCons (rd 4) (asCons (callR 3 f_in_order (asCons (rd 1) (asCons (rd 4) (asCons (rd 5) asNil)))) asNil)))))) (retS (kst (.bool false))) SO.nx)
    (seqS (setS 6 (callR 2 f_possible (asCons (rd 1) (asCons (rd 3) asNil))))
    (seqS (setS 7 (callR 2 f_possible (asCons (rd 1) (asCons (rd 4) asNil))))
    (seqS (forS (toSeq (rd 7)) (tgName 8) g_law_08_b1)
    (seqS (forS (toSeq (rd 6)) (tgName 9) g_law_08_b2)
    (retS (kst (.bool true))))))))))))))))
def f_law_08 : List D → RO := runD 12 g_law_08
def g_look_results_c1 : Rho → Res Bool := (notT (toTru (isiR "bool" (rdB 4))))
def g_look_results : Rho → SO := (seqS (dropS (callR 2 f_look_strength (asCons (rd 0) (asCons (rd 1) asNil))))
    (seqS (dropS (callR 2 f_look_tests (asCons (rd 0) (asCons (rd 2) asNil))))
    (seqS (ifS (orT (notT (toTru (isiR "list" (rdB 3)))) (toB (op2 neD (cb lenD (asCons (rdB 3) asNil)) (cb lenD (asCons (rdB 2) asNil))))) (raiseS "BadResults") SO.nx)
    (ifS (toTru (frz (lc (toSeq (rdB 3)) (tgName 4) g_look_results_c1 (rd 4) [4]))) (raiseS "BadResults") SO.nx))))
def f_look_results : List D → RO := runD 5 g_look_results
def g_results_by_e1 : Rho → Res D := (ofB (notT (toTru (callR 2 f_meets (asCons (rd 2) (asCons (rd 0) asNil))))))
def g_results_by : Rho → SO := (retO (lc (toSeq (rdB 1)) (tgName 2) yes g_results_by_e1 [2]))
def f_results_by : List D → RO := runD 3 g_results_by
def g_suspects_of_c1 : Rho → Res Bool := (toB (op2 eqD (callR 2 f_results_by (asCons (rd 4) (asCons (rd 2) asNil))) (rdB 3)))
def g_suspects_of : Rho → SO := (retO (lc (toSeq (callR 2 f_possible_of (asCons (rd 0) (asCons (rd 1) asNil)))) (tgName 4) g_suspects_of_c1 (rd 4) [4]))
def f_suspects_of : List D → RO := runD 5 g_suspects_of
def g_suspects : Rho → SO := (seqS (dropS (callR 4 f_look_results (asCons (rd 0) (asCons (rd 1) (asCons (rd 2) (asCons (rd 3) asNil))))))
    (retO (callO 4 f_suspects_of (asCons (rd 0) (asCons (rd 1) (asCons (rd 2) (asCons (rd 3) asNil)))))))
def f_suspects : List D → RO := runD 4 g_suspects
def g_next_test_c1 : Rho → Res Bool := (toTru (callR 2 f_meets (asCons (rd 6) (asCons (rd 7) asNil))))
def g_next_test_b1 : Rho → SO := (seqS (setS 8 (cb lenD (asCons (frz (lc (toSeq (rdB 4)) (tgName 7) g_next_test_c1 (rd 7) [7])) asNil)))
    (seqS (setS 9 (cb maxD (asCons (rdB 8) (asCons (op2 subD (cb lenD (asCons (rdB 4) asNil)) (rdB 8)) asNil))))
    (ifS (andT (toB (op2 ltD (rdB 9) (cb lenD (asCons (rdB 4) asNil)))) (orT (toB (isN false (rdB 5))) (toB (op2 ltD (rdB 9) (op2 ixD (rdB 5) (kst (.int 0))))))) (setS 5 (dispT (asCons (rd 9) (asCons (rd 6) asNil)))) SO.nx)))
def g_next_test : Rho → SO := (seqS (setS 4 (callR 4 f_suspects (asCons (rd 0) (asCons (rd 1) (asCons (rd 2) (asCons (rd 3) asNil))))))
    (seqS (setS 5 (kst .none))
    (seqS (forS (toSeq (callR 1 f_tests_of (asCons (rd 0) asNil))) (tgName 6) g_next_test_b1)
    (seqS (ifS (toB (isN false (rdB 5))) (retS (kst .none)) SO.nx)
    (retS (op2 ixD (rdB 5) (kst (.int 1))))))))
def f_next_test : List D → RO := runD 10 g_next_test
def g_most_looked_w1 : Rho → Res Bool := (toB (isN true (rdB 6)))
def g_most_looked_b1 : Rho → SO := (seqS (appS 5 (rd 6))
    (setS 6 (lendD 5 (callR 4 f_next_test (asCons (rd 0) (asCons (rd 1) (asCons (rd 5) (asCons (frz (lendO 5 (callO 2 f_results_by (asCons (rd 4) (asCons (rd 5) asNil))))) asNil))))))))
def g_most_looked_b2 : Rho → SO := (seqS (setO 5 (cb toListD (asCons (rdB 2) asNil)))
    (seqS (setS 6 (lendD 5 (callR 4 f_next_test (asCons (rd 0) (asCons (rd 1) (asCons (rd 5) (asCons (frz (lendO 5 (callO 2 f_results_by (asCons (rd 4) (asCons (rd 5) asNil))))) asNil)))))))
    (seqS (whileS g_most_looked_w1 g_most_looked_b1)
    (setS 3 (cb maxD (asCons (rdB 3) (asCons (op2 subD (cb lenD (asCons (rdB 5) asNil)) (cb lenD (asCons (rdB 2) asNil))) asNil)))))))
def g_most_looked : Rho → SO := (seqS (dropS (callR 2 f_look_strength (asCons (rd 0) (asCons (rd 1) asNil))))
    (seqS (dropS (callR 2 f_look_tests (asCons (rd 0) (asCons (rd 2) asNil))))
    (seqS (setS 3 (kst (.int 0)))
    (seqS (forS (toSeq (callR 2 f_possible_of (asCons (rd 0) (asCons (rd 1) asNil)))) (tgName 4) g_most_looked_b2)
    (retS (rd 3))))))
def f_most_looked : List D → RO := runD 7 g_most_looked
def g_l_next_c1 : Rho → Res Bool := (toTru (callR 2 f_l_meets (asCons (rd 3) (asCons (rd 4) asNil))))
def g_l_next_b1 : Rho → SO := (seqS (setS 5 (cb lenD (asCons (frz (lc (toSeq (rdB 0)) (tgName 4) g_l_next_c1 (rd 4) [4])) asNil)))
    (seqS (setS 6 (cb maxD (asCons (rdB 5) (asCons (op2 subD (cb lenD (asCons (rdB 0) asNil)) (rdB 5)) asNil))))
    (ifS (andT (toB (op2 ltD (rdB 6) (cb lenD (asCons (rdB 0) asNil)))) (orT (toB (isN false (rdB 2))) (toB (op2 ltD (rdB 6) (op2 ixD (rdB 2) (kst (.int 0))))))) (setS 2 (dispT (asCons (rd 6) (asCons (rd 3) asNil)))) SO.nx)))
def g_l_next : Rho → SO := (seqS (setS 2 (kst .none))
    (seqS (forS (toSeq (rd 1)) (tgName 3) g_l_next_b1)
    (seqS (ifS (toB (isN false (rdB 2))) (retS (kst .none)) SO.nx)
    (retS (op2 ixD (rdB 2) (kst (.int 1)))))))
def f_l_next : List D → RO := runD 7 g_l_next
def g_law_15_c1 : Rho → Res Bool := (toB (op2 ltD (op2 ixD (op2 ixD (rdB 2) (negR (kst (.int 1)))) (kst (.int 0))) (kst (.int 3))))
def g_law_15_e1 : Rho → Res D := (ofB (notT (toTru (callR 2 f_l_meets (asCons (rd 8) (asCons (rd 7) asNil))))))
def g_law_15_e2 : Rho → Res D := (ofB (notT (toTru (callR 2 f_l_meets (asCons (rd 8) (asCons (rd 10) asNil))))))
def g_law_15_c2 : Rho → Res Bool := (toB (op2 eqD (frz (lc (toSeq (rdB 4)) (tgName 8) yes g_law_15_e2 [8])) (rdB 9)))
def g_law_15_e3 : Rho → Res D := (callR 2 f_l_meets (asCons (rd 8) (asCons (rd 10) asNil)))
def g_law_15_e4 : Rho → Res D := (callR 2 f_l_meets (asCons (rd 8) (asCons (rd 14) asNil)))
def g_law_15_c3 : Rho → Res Bool := (toB (op2 eqD (frz (lc (toSeq (rdB 4)) (tgName 8) yes g_law_15_e4 [8])) (rdB 13)))
def g_law_15_c4 : Rho → Res Bool := (toB (op2 eqD (callR 2 f_l_meets (asCons (rd 8) (asCons (rd 14) asNil))) (callR 2 f_l_meets (asCons (rd 8) (asCons (rd 10) asNil)))))
def g_law_15_w1 : Rho → Res Bool := (toB (isN true (rdB 8)))
def g_law_15_b1 : Rho → SO := (seqS (setS 16 (op2 addD (rdB 16) (kst (.int 1))))
    (seqS (setS 15 (frz (lc (toSeq (rdB 15)) (tgName 14) g_law_15_c4 (rd 14) [14])))
    (setS 8 (callR 2 f_l_next (asCons (rd 15) (asCons (rd 5) asNil))))))
def g_law_15_b2 : Rho → SO := (seqS (setS 13 (frz (lc (toSeq (rdB 4)) (tgName 8) yes g_law_15_e3 [8])))
    (seqS (setS 15 (frz (lc (toSeq (rdB 6)) (tgName 14) g_law_15_c3 (rd 14) [14])))
    (seqS (setS 16 (kst (.int 0)))
    (seqS (setS 8 (callR 2 f_l_next (asCons (rd 15) (asCons (rd 5) asNil))))
    (seqS (whileS g_law_15_w1 g_law_15_b1)
    (setS 12 (cb maxD (asCons (rdB 12) (asCons (rdB 16) asNil)))))))))
def g_law_15 : Rho → SO := (seqS (setS 1 (callR 2 f_l_book (asCons (rd 0) (asCons (kst (.int 2)) asNil))))
    (seqS (setS 1 (dispT (asCons (sl3 cutD (op2 ixD (rdB 1) (kst (.int 0))) ptN (ptS (kst (.int 3)))) (asCons (cb toTupD (asCons (frz (lc (toSeq (op2 ixD (rdB 1) (kst (.int 1)))) (tgName 2) g_law_15_c1 (rd 2) [2])) asNil)) asNil))))
    (seqS (setS 3 (callR 2 f_l_strength (asCons (rd 1) (asCons (callR 2 f_l_cell (asCons (rd 0) (asCons (kst (.int 0)) asNil))) asNil))))
    (seqS (setS 4 (callR 4 f_l_drawn (asCons (rd 0) (asCons (kst (.int 5)) (asCons (rd 1) (asCons (kst (.int 3)) asNil))))))
    (seqS (setS 5 (callR 1 f_l_tests (asCons (rd 1) asNil)))
    (seqS (setS 6 (callR 2 f_l_possible (asCons (rd 1) (asCons (rd 3) asNil))))
    (seqS (ifS (toB (op2 eqD (rdB 6) (frz (disp asNil)))) (retS (andV (isN false (callR 4 f_next_test (asCons (rd 1) (asCons (rd 3) (asCons (frz (disp asNil)) (asCons (frz (disp asNil)) asNil)))))) (op2 eqD (callR 3 f_most_looked (asCons (rd 1) (asCons (rd 3) (asCons (frz (disp asNil)) asNil)))) (kst (.int 0))))) SO.nx)
    (seqS (setS 7 (op2 ixD (rdB 6) (op2 modD (callR 2 f_l_cell (asCons (rd 0) (asCons (kst (.int 1)) asNil))) (cb lenD (asCons (rdB 6) asNil)))))
    (seqS (setS 9 (frz (lc (toSeq (rdB 4)) (tgName 8) yes g_law_15_e1 [8])))
    (seqS (setS 11 (frz (lc (toSeq (rdB 6)) (tgName 10) g_law_15_c2 (rd 10) [10])))
    (seqS (ifS (toB (op2 neD (callR 4 f_next_test (asCons (rd 1) (asCons (rd 3) (asCons (rd 4) (asCons (rd 9) asNil))))) (callR 2 f_l_next (asCons (rd 11) (asCons (rd 5) asNil))))) (retS (kst (.bool false))) SO.nx)
    (seqS (setS 12 (kst (.int 0)))
    (seqS (forS (toSeq (rd 6)) (tgName 10) g_law_15_b2)
    (retS (op2 eqD (callR 3 f_most_looked (asCons (rd 1) (asCons (rd 3) (asCons (rd 4) asNil)))) (rdB 12))))))))))))))))
def f_law_15 : List D → RO := runD 17 g_law_15
def g_law_07_c1 : Rho → Res Bool := (toB (op2 (inD true) (rdB 6) (rdB 4)))
def g_law_07_b1 : Rho → SO := (ifS (toB (op2 eqD (callR 2 f_l_left (asCons (rd 5) (asCons (op2 addD (sl3 cutD (rdB 3) ptN (ptS (rdB 7))) (sl3 cutD (rdB 3) (ptS (op2 addD (rdB 7) (kst (.int 1)))) ptN)) asNil))) (frz (disp asNil)))) (retS (kst (.bool false))) SO.nx)
def g_law_07_e1 : Rho → Res D := (op2 ixD (rdB 10) (kst (.int 0)))
def g_law_07_b2 : Rho → SO := (seqS (setS 11 (cb toTupD (asCons (frz (lc (toSeq (rdB 9)) (tgName 10) yes g_law_07_e1 [10])) asNil)))
    (dputS 8 (rd 11) (op2 addD (dgetR 8 (rd 11) (kst (.int 0))) (kst (.int 1)))))
def g_law_07_e2 : Rho → Res D := (dgetIR 8 (rd 11))
def g_law_07 : Rho → SO := (seqS (setS 1 (callR 2 f_l_book (asCons (rd 0) (asCons (kst (.int 1)) asNil))))
    (seqS (setS 2 (callR 2 f_l_strength (asCons (rd 1) (asCons (callR 2 f_l_cell (asCons (rd 0) (asCons (kst (.int 0)) asNil))) asNil))))
    (seqS (setS 3 (callR 2 f_built (asCons (rd 1) (asCons (rd 2) asNil))))
    (seqS (setS 4 (callR 1 f_l_tests (asCons (rd 1) asNil)))
    (seqS (setS 5 (callR 2 f_l_possible (asCons (rd 1) (asCons (rd 2) asNil))))
    (seqS (ifS (orT (notT (toTru (isiR "list" (rdB 3)))) (orT (toTru (frz (lc (toSeq (rdB 3)) (tgName 6) g_law_07_c1 (rd 6) [6]))) (toB (op2 neD (callR 2 f_l_left (asCons (rd 5) (asCons (rd 3) asNil))) (frz (disp asNil)))))) (retS (kst (.bool false))) SO.nx)
    (seqS (forS (cb rng1 (asCons (cb lenD (asCons (rdB 3) asNil)) asNil)) (tgName 7) g_law_07_b1)
    (seqS (dnewS 8)
    (seqS (forS (toSeq (rd 5)) (tgName 9) g_law_07_b2)
    (retS (andV (op2 geD (cb lenD (asCons (rdB 3) asNil)) (maxDefR (frz (lc (keysR 8) (tgName 11) yes g_law_07_e2 [11])) (kst (.int 0)))) (op2 eqD (op2 eqD (rdB 3) (frz (disp asNil))) (op2 eqD (rdB 5) (frz (disp asNil)))))))))))))))
def f_law_07 : List D → RO := runD 12 g_law_07
def g_blurred_b1 : Rho → SO := (seqS (setS 5 (cb toTupD (asCons (callR 2 f_results_by (asCons (rd 4) (asCons (rd 2) asNil))) asNil)))
    (dputS 3 (rd 5) (op2 addD (dgetR 3 (rd 5) (frz (disp asNil))) (frz (disp (asCons (rd 4) asNil))))))
def g_blurred_c1 : Rho → Res Bool := (toB (op2 gtD (cb lenD (asCons (dgetIR 3 (rd 5)) asNil)) (kst (.int 1))))
def g_blurred_e1 : Rho → Res D := (dgetIR 3 (rd 5))
def g_blurred : Rho → SO := (seqS (dropS (callR 2 f_look_strength (asCons (rd 0) (asCons (rd 1) asNil))))
    (seqS (dropS (callR 2 f_look_tests (asCons (rd 0) (asCons (rd 2) asNil))))
    (seqS (dnewS 3)
    (seqS (forS (toSeq (callR 2 f_possible_of (asCons (rd 0) (asCons (rd 1) asNil)))) (tgName 4) g_blurred_b1)
    (retO (cb sortedD (asCons (frz (lc (keysR 3) (tgName 5) g_blurred_c1 g_blurred_e1 [5])) asNil)))))))
def f_blurred : List D → RO := runD 6 g_blurred
def g_l_told : Rho → SO := (tryS 6 5 (seqS (ifS (toB (op2 eqD (rdB 0) (kst (.int 0)))) (retO (callO 4 f_suspects (asCons (rd 1) (asCons (rd 2) (asCons (rd 3) (asCons (rd 4) asNil)))))) SO.nx)
    (retS (callR 4 f_next_test (asCons (rd 1) (asCons (rd 2) (asCons (rd 3) (asCons (rd 4) asNil)))))))
    (handK "TestError" fun c => (retO (disp (asCons (xIs 5 "BadResults" c) (asCons (xVe 5) (asCons (kst (.str (Str.ofString "refused"))) asNil)))))))
def f_l_told : List D → RO := runD 6 g_l_told
def g_law_14_e1 : Rho → Res D := (op2 eqD (callR 3 f_l_mix (asCons (op2 addD (callR 2 f_l_cell (asCons (rd 0) (asCons (kst (.int 1)) asNil))) (op2 mulD (kst (.int 13)) (rdB 5))) (asCons (kst (.int 9859)) (asCons (kst (.int 2)) asNil)))) (kst (.int 1)))
def g_law_14_e2 : Rho → Res D := (ofB (notT (toTru (callR 2 f_l_meets (asCons (rd 8) (asCons (rd 7) asNil))))))
def g_law_14_c1 : Rho → Res Bool := (toB (op2 neD (callR 5 f_l_told (asCons (rd 11) (asCons (rd 1) (asCons (rd 2) (asCons (rd 3) (asCons (rd 10) asNil)))))) (frz (disp (asCons (kst (.bool true)) (asCons (kst (.bool true)) (asCons (kst (.str (Str.ofString "refused"))) asNil)))))))
def g_law_14_e3 : Rho → Res D := (ofB (notT (toTru (callR 2 f_l_meets (asCons (rd 8) (asCons (rd 15) asNil))))))
def g_law_14_b1 : Rho → SO := (seqS (setS 16 (frz (lc (toSeq (rdB 3)) (tgName 8) yes g_law_14_e3 [8])))
    (seqS (ifS (toB (op2 eqD (rdB 16) (rdB 6))) (appS 13 (rd 15)) SO.nx)
    (dputS 14 (cb toTupD (asCons (rdB 16) asNil)) (op2 addD (dgetR 14 (cb toTupD (asCons (rdB 16) asNil)) (frz (disp asNil))) (frz (disp (asCons (rd 15) asNil)))))))
def g_law_14_c2 : Rho → Res Bool := (toB (op2 gtD (cb lenD (asCons (dgetIR 14 (rd 16)) asNil)) (kst (.int 1))))
def g_law_14_e4 : Rho → Res D := (dgetIR 14 (rd 16))
def g_law_14 : Rho → SO := (seqS (setS 1 (callR 2 f_l_book (asCons (rd 0) (asCons (kst (.int 2)) asNil))))
    (seqS (setS 2 (callR 2 f_l_strength (asCons (rd 1) (asCons (callR 2 f_l_cell (asCons (rd 0) (asCons (kst (.int 0)) asNil))) asNil))))
    (seqS (setS 3 (callR 4 f_l_drawn (asCons (rd 0) (asCons (kst (.int 5)) (asCons (rd 1) (asCons (kst (.int 6)) asNil))))))
    (seqS (setS 4 (callR 2 f_l_possible (asCons (rd 1) (asCons (rd 2) asNil))))
    (seqS (setS 6 (frz (lc (cb rng1 (asCons (cb lenD (asCons (rdB 3) asNil)) asNil)) (tgName 5) yes g_law_14_e1 [5])))
    (seqS (ifS (andT (toB (op2 neD (rdB 4) (frz (disp asNil)))) (toB (op2 gtD (op2 modD (callR 2 f_l_cell (asCons (rd 0) (asCons (kst (.int 1)) asNil))) (kst (.int 4))) (kst (.int 0))))) (seqS (setS 7 (op2 ixD (rdB 4) (op2 modD (callR 2 f_l_cell (asCons (rd 0) (asCons (kst (.int 1)) asNil))) (cb lenD (asCons (rdB 4) asNil)))))
    (setS 6 (frz (lc (toSeq (rdB 3)) (tgName 8) yes g_law_14_e2 [8])))) SO.nx)
    (seqS (ifS (toB (op2 eqD (op2 modD (callR 2 f_l_cell (asCons (rd 0) (asCons (kst (.int 0)) asNil))) (kst (.int 6))) (kst (.int 5)))) (seqS (setS 9 (frz (disp (asCons (kst .none) (asCons (cb toTupD (asCons (rdB 6) asNil)) (asCons (op2 addD (rdB 6) (frz (disp (asCons (kst (.bool true)) asNil)))) (asCons (op2 mulA (frz (disp (asCons (kst (.int 1)) asNil))) (op2 addD (cb lenD (asCons (rdB 3) asNil)) (kst (.int 1)))) (asCons (op2 addD (sl3 cutD (rdB 6) ptN (ptS (negR (kst (.int 1))))) (frz (disp (asCons (kst .none) asNil)))) (asCons (frz (disp (asCons (rd 6) asNil))) asNil)))))))))
    (seqS (setS 10 (op2 ixD (rdB 9) (op2 modD (callR 2 f_l_cell (asCons (rd 0) (asCons (kst (.int 1)) asNil))) (op2 addD (kst (.int 4)) (cb intD1 (asCons (op2 neD (rdB 3) (frz (disp asNil))) asNil))))))
    (retS (op2 eqD (frz (lc (cb rng1 (asCons (kst (.int 2)) asNil)) (tgName 11) g_law_14_c1 (rd 11) [11])) (frz (disp asNil)))))) SO.nx)
    (seqS (setS 12 (dispT (asCons (frz (cb toListD (asCons (rdB 3) asNil))) (asCons (frz (cb toListD (asCons (rdB 6) asNil))) asNil))))
    (seqS (setO 13 (disp asNil))
    (seqS (dnewS 14)
    (seqS (forS (toSeq (rd 4)) (tgName 15) g_law_14_b1)
    (seqS (ifS (orT (toB (op2 neD (callR 5 f_l_told (asCons (kst (.int 0)) (asCons (rd 1) (asCons (rd 2) (asCons (rd 3) (asCons (rd 6) asNil)))))) (rdB 13))) (toB (op2 neD (dispT (asCons (rd 3) (asCons (rd 6) asNil))) (rdB 12)))) (retS (kst (.bool false))) SO.nx)
    (seqS (setS 17 (frz (cb sortedD (asCons (frz (lc (keysR 14) (tgName 16) g_law_14_c2 g_law_14_e4 [16])) asNil))))
    (seqS (setS 18 (callR 3 f_blurred (asCons (rd 1) (asCons (rd 2) (asCons (rd 3) asNil)))))
    (retS (andV (isiR "list" (rdB 18)) (op2 eqD (rdB 18) (rdB 17))))))))))))))))))
def f_law_14 : List D → RO := runD 19 g_law_14
def g_looked : Rho → SO := (seqS (ifS (notT (toTru (callR 1 f_is_book (asCons (rd 0) asNil)))) (raiseS "TooBig") SO.nx)
    (retS (rd 0)))
def f_looked : List D → RO := runD 1 g_looked
def g_with_setting : Rho → SO := (seqS (dropS (callR 1 f_checked (asCons (rd 0) asNil)))
    (seqS (ifS (notT (toTru (callR 3 f_is_within (asCons (rd 1) (asCons (kst (.int 0)) (asCons (op2 subD (cb lenD (asCons (op2 ixD (rdB 0) (kst (.int 0))) asNil)) (kst (.int 1))) asNil)))))) (raiseS "BadNumber") SO.nx)
    (seqS (setS 2 (op2 ixD (rdB 0) (kst (.int 0))))
    (retS (callR 1 f_looked (asCons (dispT (asCons (op2 addD (op2 addD (sl3 cutD (rdB 2) ptN (ptS (rdB 1))) (dispT (asCons (op2 addD (op2 ixD (rdB 2) (rdB 1)) (kst (.int 1))) asNil))) (sl3 cutD (rdB 2) (ptS (op2 addD (rdB 1) (kst (.int 1)))) ptN)) (asCons (op2 ixD (rdB 0) (kst (.int 1))) asNil))) asNil))))))
def f_with_setting : List D → RO := runD 3 g_with_setting
def g_with_thing : Rho → SO := (seqS (dropS (callR 1 f_checked (asCons (rd 0) asNil)))
    (seqS (ifS (notT (toTru (callR 3 f_is_within (asCons (rd 1) (asCons (kst (.int 1)) (asCons (kst (.int 4)) asNil)))))) (raiseS "BadNumber") SO.nx)
    (retS (callR 1 f_looked (asCons (dispT (asCons (op2 addD (op2 ixD (rdB 0) (kst (.int 0))) (dispT (asCons (rd 1) asNil))) (asCons (op2 ixD (rdB 0) (kst (.int 1))) asNil))) asNil)))))
def f_with_thing : List D → RO := runD 2 g_with_thing
def g_with_ban : Rho → SO := (seqS (dropS (callR 1 f_checked (asCons (rd 0) asNil)))
    (seqS (ifS (toB (op2 eqD (cb lenD (asCons (op2 ixD (rdB 0) (kst (.int 1))) asNil)) (kst (.int 12)))) (raiseS "TooBig") SO.nx)
    (seqS (setS 2 (dispT (asCons (op2 ixD (rdB 0) (kst (.int 0))) (asCons (op2 addD (op2 ixD (rdB 0) (kst (.int 1))) (dispT (asCons (rd 1) asNil))) asNil))))
    (seqS (ifS (notT (toTru (callR 1 f_is_book (asCons (rd 2) asNil)))) (raiseS "BadBook") SO.nx)
    (retS (rd 2))))))
def f_with_ban : List D → RO := runD 3 g_with_ban
def g_l_told_13 : Rho → SO := (tryS 4 3 (seqS (ifS (toB (op2 eqD (rdB 0) (kst (.int 0)))) (retS (callR 2 f_with_setting (asCons (rd 1) (asCons (rd 2) asNil)))) SO.nx)
    (seqS (ifS (toB (op2 eqD (rdB 0) (kst (.int 1)))) (retS (callR 2 f_with_thing (asCons (rd 1) (asCons (rd 2) asNil)))) SO.nx)
    (retS (callR 2 f_with_ban (asCons (rd 1) (asCons (rd 2) asNil))))))
    (handK "TestError" fun c => (retO (disp (asCons (xIs 3 "TooBig" c) (asCons (xIs 3 "BadNumber" c) (asCons (xIs 3 "BadBook" c) asNil)))))))
def f_l_told_13 : List D → RO := runD 4 g_l_told_13
def g_law_13 : Rho → SO := (seqS (tgtS (tgPair 1 2) (callR 2 f_l_book (asCons (rd 0) (asCons (kst (.int 2)) asNil))))
    (seqS (setS 3 (dispT (asCons (rd 1) (asCons (rd 2) asNil))))
    (seqS (setS 4 (op2 modD (callR 2 f_l_cell (asCons (rd 0) (asCons (kst (.int 0)) asNil))) (cb lenD (asCons (rdB 1) asNil))))
    (seqS (setS 5 (dispT (asCons (op2 addD (op2 addD (sl3 cutD (rdB 1) ptN (ptS (rdB 4))) (dispT (asCons (op2 addD (op2 ixD (rdB 1) (rdB 4)) (kst (.int 1))) asNil))) (sl3 cutD (rdB 1) (ptS (op2 addD (rdB 4) (kst (.int 1)))) ptN)) (asCons (rd 2) asNil))))
    (seqS (ifS (toB (op2 neD (callR 3 f_l_told_13 (asCons (kst (.int 0)) (asCons (rd 3) (asCons (rd 4) asNil)))) (rdB 5))) (retS (kst (.bool false))) SO.nx)
    (seqS (setS 6 (op2 addD (kst (.int 1)) (op2 modD (op2 divD (callR 2 f_l_cell (asCons (rd 0) (asCons (kst (.int 0)) asNil))) (kst (.int 4))) (kst (.int 4)))))
    (seqS (ifS (toB (op2 neD (callR 3 f_l_told_13 (asCons (kst (.int 1)) (asCons (rd 3) (asCons (rd 6) asNil)))) (dispT (asCons (op2 addD (rdB 1) (dispT (asCons (rd 6) asNil))) (asCons (rd 2) asNil))))) (retS (kst (.bool false))) SO.nx)
    (seqS (setS 7 (dispT (asCons (dispT (asCons (rd 4) (asCons (op2 modD (callR 2 f_l_cell (asCons (rd 0) (asCons (kst (.int 1)) asNil))) (op2 ixD (rdB 1) (rdB 4))) asNil))) asNil)))
    (seqS (ifS (toB (op2 neD (callR 3 f_l_told_13 (asCons (kst (.int 2)) (asCons (rd 3) (asCons (rd 7) asNil)))) (dispT (asCons (rd 1) (asCons (op2 addD (rdB 2) (dispT (asCons (rd 7) asNil))) asNil))))) (retS (kst (.bool false))) SO.nx)
    (seqS (setS 8 (op2 ixD (frz (disp (asCons (kst .none) (asCons (negR (kst (.int 1))) (asCons (kst (.int 6)) (asCons (kst (.bool true)) (asCons (kst (.str (Str.ofString "1"))) (asCons (frz (disp (asCons (kst (.int 1)) asNil))) (asCons (dispT (asCons (kst (.int 0)) asNil)) asNil))))))))) (op2 modD (callR 2 f_l_cell (asCons (rd 0) (asCons (kst (.int 1)) asNil))) (kst (.int 7)))))
    (seqS (ifS (orT (toB (op2 neD (callR 3 f_l_told_13 (asCons (kst (.int 0)) (asCons (rd 3) (asCons (rd 8) asNil)))) (frz (disp (asCons (kst (.bool false)) (asCons (kst (.bool true)) (asCons (kst (.bool false)) asNil))))))) (toB (op2 neD (callR 3 f_l_told_13 (asCons (kst (.int 1)) (asCons (rd 3) (asCons (rd 8) asNil)))) (frz (disp (asCons (kst (.bool false)) (asCons (kst (.bool true)) (asCons (kst (.bool false)) asNil)))))))) (retS (kst (.bool false))) SO.nx)
    (seqS (setS 9 (frz (disp (asCons (kst .none) (asCons (dispT asNil) (asCons (frz (disp (asCons (dispT (asCons (kst (.int 0)) (asCons (kst (.int 0)) asNil))) asNil))) (asCons (dispT (asCons (dispT (asCons (rd 4) (asCons (op2 ixD (rdB 1) (rdB 4)) asNil))) asNil)) (asCons (dispT (asCons (dispT (asCons (cb lenD (asCons (rdB 1) asNil)) (asCons (kst (.int 0)) asNil))) asNil)) (asCons (dispT (asCons (dispT (asCons (kst (.int 0)) (asCons (kst (.int 0)) asNil))) (asCons (dispT (asCons (kst (.int 0)) (asCons (kst (.int 0)) asNil))) asNil))) (asCons (kst (.int 7)) asNil))))))))))
    (seqS (setS 8 (op2 ixD (rdB 9) (op2 modD (callR 2 f_l_cell (asCons (rd 0) (asCons (kst (.int 0)) asNil))) (kst (.int 7)))))
    (seqS (ifS (toB (op2 neD (callR 3 f_l_told_13 (asCons (kst (.int 2)) (asCons (rd 3) (asCons (rd 8) asNil)))) (frz (disp (asCons (kst (.bool false)) (asCons (kst (.bool false)) (asCons (kst (.bool true)) asNil))))))) (retS (kst (.bool false))) SO.nx)
    (seqS (setS 10 (dispT (asCons (rd 1) (asCons (op2 mulA (dispT (asCons (rd 7) asNil)) (kst (.int 12))) asNil))))
    (seqS (ifS (orT (toB (op2 neD (callR 3 f_l_told_13 (asCons (kst (.int 2)) (asCons (rd 10) (asCons (rd 7) asNil)))) (frz (disp (asCons (kst (.bool true)) (asCons (kst (.bool false)) (asCons (kst (.bool false)) asNil))))))) (toB (op2 neD (callR 3 f_l_told_13 (asCons (kst (.int 2)) (asCons (rd 10) (asCons (kst .none) asNil)))) (frz (disp (asCons (kst (.bool true)) (asCons (kst (.bool false)) (asCons (kst (.bool false)) asNil)))))))) (retS (kst (.bool false))) SO.nx)
    (seqS (setS 11 (op2 ixD (frz (disp (asCons (dispT (asCons (dispT (asCons (kst (.int 4)) (asCons (kst (.int 4)) (asCons (kst (.int 4)) (asCons (kst (.int 4)) asNil))))) (asCons (dispT asNil) asNil))) (asCons (dispT (asCons (dispT (asCons (kst (.int 4)) asNil)) (asCons (dispT asNil) asNil))) (asCons (dispT (asCons (dispT (asCons (op2 subD (kst (.int 5)) (kst (.int 1))) (asCons (kst (.int 1)) asNil))) (asCons (sl3 cutD (rdB 2) ptN (ptS (kst (.int 0)))) asNil))) asNil))))) (op2 modD (callR 2 f_l_cell (asCons (rd 0) (asCons (kst (.int 0)) asNil))) (kst (.int 3)))))
    (seqS (ifS (toB (op2 neD (callR 3 f_l_told_13 (asCons (kst (.int 0)) (asCons (rd 11) (asCons (kst (.int 0)) asNil)))) (frz (disp (asCons (kst (.bool true)) (asCons (kst (.bool false)) (asCons (kst (.bool false)) asNil))))))) (retS (kst (.bool false))) SO.nx)
    (seqS (setS 5 (frz (disp (asCons (kst (.bool true)) (asCons (kst (.bool false)) (asCons (kst (.bool false)) asNil))))))
    (retS (andV (op2 eqD (callR 3 f_l_told_13 (asCons (kst (.int 1)) (asCons (dispT (asCons (op2 mulA (dispT (asCons (kst (.int 1)) asNil)) (kst (.int 6))) (asCons (dispT asNil) asNil))) (asCons (kst (.int 1)) asNil)))) (rdB 5)) (op2 eqD (callR 3 f_l_told_13 (asCons (kst (.int 1)) (asCons (dispT (asCons (dispT (asCons (kst (.int 4)) (asCons (kst (.int 4)) (asCons (kst (.int 4)) (asCons (kst (.int 4)) asNil))))) (asCons (dispT asNil) asNil))) (asCons (kst (.int 2)) asNil)))) (rdB 5)))))))))))))))))))))))
def f_law_13 : List D → RO := runD 12 g_law_13
def g_law_16_c1 : Rho → Res Bool := (toB (op2 ltD (op2 ixD (op2 ixD (rdB 2) (negR (kst (.int 1)))) (kst (.int 0))) (kst (.int 3))))
def g_law_16_e1 : Rho → Res D := (ofB (notT (toTru (callR 2 f_l_meets (asCons (rd 7) (asCons (rd 6) asNil))))))
def g_law_16_w1 : Rho → Res Bool := (andT (toB (isN true (rdB 7))) (toB (op2 leD (rdB 11) (rdB 9))))
def g_law_16_b1 : Rho → SO := (seqS (ifS (toB (op2 (inD true) (rdB 6) (rdB 10))) (retS (kst (.bool false))) SO.nx)
    (seqS (setS 11 (op2 addD (rdB 11) (kst (.int 1))))
    (seqS (appS 5 (rd 7))
    (seqS (appS 8 (ofB (notT (toTru (callR 2 f_l_meets (asCons (rd 7) (asCons (rd 6) asNil)))))))
    (seqS (setS 12 (frz (lendO 8 (lendO 5 (callO 4 f_suspects (asCons (rd 1) (asCons (rd 3) (asCons (rd 5) (asCons (rd 8) asNil)))))))))
    (seqS (ifS (toB (op2 geD (cb lenD (asCons (rdB 12) asNil)) (cb lenD (asCons (rdB 10) asNil)))) (retS (kst (.bool false))) SO.nx)
    (seqS (setS 10 (rd 12))
    (setS 7 (lendD 8 (lendD 5 (callR 4 f_next_test (asCons (rd 1) (asCons (rd 3) (asCons (rd 5) (asCons (rd 8) asNil)))))))))))))))
def g_law_16 : Rho → SO := (seqS (setS 1 (callR 2 f_l_book (asCons (rd 0) (asCons (kst (.int 2)) asNil))))
    (seqS (setS 1 (dispT (asCons (sl3 cutD (op2 ixD (rdB 1) (kst (.int 0))) ptN (ptS (kst (.int 3)))) (asCons (cb toTupD (asCons (frz (lc (toSeq (op2 ixD (rdB 1) (kst (.int 1)))) (tgName 2) g_law_16_c1 (rd 2) [2])) asNil)) asNil))))
    (seqS (setS 3 (callR 2 f_l_strength (asCons (rd 1) (asCons (callR 2 f_l_cell (asCons (rd 0) (asCons (kst (.int 0)) asNil))) asNil))))
    (seqS (setS 4 (callR 2 f_possible (asCons (rd 1) (asCons (rd 3) asNil))))
    (seqS (setO 5 (callO 2 f_built (asCons (rd 1) (asCons (rd 3) asNil))))
    (seqS (ifS (toB (op2 eqD (rdB 4) (frz (disp asNil)))) (retS (op2 eqD (rdB 5) (frz (disp asNil)))) SO.nx)
    (seqS (setS 6 (op2 ixD (rdB 4) (op2 modD (callR 2 f_l_cell (asCons (rd 0) (asCons (kst (.int 1)) asNil))) (cb lenD (asCons (rdB 4) asNil)))))
    (seqS (setO 8 (lc (toSeq (rdB 5)) (tgName 7) yes g_law_16_e1 [7]))
    (seqS (ifS (toB (op2 (inD true) (kst (.bool false)) (rdB 8))) (retS (kst (.bool false))) SO.nx)
    (seqS (setS 9 (lendD 5 (callR 3 f_most_looked (asCons (rd 1) (asCons (rd 3) (asCons (rd 5) asNil))))))
    (seqS (setS 10 (frz (lendO 8 (lendO 5 (callO 4 f_suspects (asCons (rd 1) (asCons (rd 3) (asCons (rd 5) (asCons (rd 8) asNil)))))))))
    (seqS (setS 7 (lendD 8 (lendD 5 (callR 4 f_next_test (asCons (rd 1) (asCons (rd 3) (asCons (rd 5) (asCons (rd 8) asNil))))))))
    (seqS (setS 11 (kst (.int 0)))
    (seqS (whileS g_law_16_w1 g_law_16_b1)
    (seqS (ifS (orT (toB (isN true (rdB 7))) (orT (toB (op2 gtD (rdB 11) (rdB 9))) (toB (op2 (inD true) (rdB 6) (rdB 10))))) (retS (kst (.bool false))) SO.nx)
    (seqS (setS 13 (callR 3 f_blurred (asCons (rd 1) (asCons (rd 3) (asCons (callR 1 f_all_tests (asCons (rd 1) asNil)) asNil)))))
    (retS (orV (op2 (inD false) (rdB 10) (rdB 13)) (op2 eqD (rdB 10) (frz (disp (asCons (rd 6) asNil))))))))))))))))))))))
def f_law_16 : List D → RO := runD 14 g_law_16
def g_look_rows_c1 : Rho → Res Bool := (notT (toTru (callR 3 f_is_within (asCons (rd 3) (asCons (kst (.int 0)) (asCons (kst (.int 99)) asNil))))))
def g_look_rows_b1 : Rho → SO := (ifS (orT (notT (toTru (isiR "tuple" (rdB 2)))) (toTru (frz (lc (toSeq (rdB 2)) (tgName 3) g_look_rows_c1 (rd 3) [3])))) (raiseB (rd 1)) SO.nx)
def g_look_rows : Rho → SO := (seqS (ifS (notT (toTru (isiR "list" (rdB 0)))) (raiseB (kst (.int 0))) SO.nx)
    (forS (toEnum (rd 0)) (tgPair 1 2) g_look_rows_b1))
def f_look_rows : List D → RO := runD 4 g_look_rows
def g_kept_b1 : Rho → SO := (ifS (andT (toTru (callR 2 f_is_row (asCons (op2 ixD (rdB 0) (kst (.int 0))) (asCons (rd 4) asNil)))) (andT (toTru (callR 2 f_is_allowed (asCons (rd 0) (asCons (rd 4) asNil)))) (toB (op2 (inD true) (rdB 4) (rdB 3))))) (appS 3 (rd 4)) SO.nx)
def g_kept_b2 : Rho → SO := (ifS (notT (toTru (callR 2 f_unmet (asCons (rd 5) (asCons (op2 addD (sl3 cutD (rdB 6) ptN (ptS (rdB 7))) (sl3 cutD (rdB 6) (ptS (op2 addD (rdB 7) (kst (.int 1)))) ptN)) asNil))))) (setS 6 (op2 addD (sl3 cutD (rdB 6) ptN (ptS (rdB 7))) (sl3 cutD (rdB 6) (ptS (op2 addD (rdB 7) (kst (.int 1)))) ptN))) SO.nx)
def g_kept : Rho → SO := (seqS (dropS (callR 2 f_look_strength (asCons (rd 0) (asCons (rd 1) asNil))))
    (seqS (dropS (callR 1 f_look_rows (asCons (rd 2) asNil)))
    (seqS (setO 3 (disp asNil))
    (seqS (forS (toSeq (rd 2)) (tgName 4) g_kept_b1)
    (seqS (setS 5 (callR 2 f_possible_of (asCons (rd 0) (asCons (rd 1) asNil))))
    (seqS (setS 6 (frz (lendO 3 (callO 3 f_filled (asCons (rd 0) (asCons (rd 5) (asCons (rd 3) asNil)))))))
    (seqS (forS (cb rng3 (asCons (op2 subD (cb lenD (asCons (rdB 6) asNil)) (kst (.int 1))) (asCons (op2 subD (cb lenD (asCons (rdB 3) asNil)) (kst (.int 1))) (asCons (negR (kst (.int 1))) asNil)))) (tgName 7) g_kept_b2)
    (retS (rd 6)))))))))
def f_kept : List D → RO := runD 8 g_kept
def g_lengthened_e1 : Rho → Res D := (op2 addD (rdB 2) (dispT (asCons (rd 1) asNil)))
def g_lengthened : Rho → SO := (seqS (dropS (callR 1 f_look_rows (asCons (rd 0) asNil)))
    (seqS (ifS (notT (toTru (callR 3 f_is_within (asCons (rd 1) (asCons (kst (.int 0)) (asCons (kst (.int 3)) asNil)))))) (raiseS "BadNumber") SO.nx)
    (retO (lc (toSeq (rdB 0)) (tgName 2) yes g_lengthened_e1 [2]))))
def f_lengthened : List D → RO := runD 3 g_lengthened
def g_l_told_12 : Rho → SO := (tryS 5 4 (seqS (ifS (toB (op2 eqD (rdB 0) (kst (.int 0)))) (retS (callR 3 f_kept (asCons (rd 1) (asCons (rd 2) (asCons (rd 3) asNil))))) SO.nx)
    (retO (callO 2 f_lengthened (asCons (rd 3) (asCons (kst (.int 2)) asNil)))))
    (handK "TestError" fun c => (retO (disp (asCons (xIs 4 "BadTests" c) (asCons (xVe 4) (asCons (kst (.str (Str.ofString "refused"))) (asCons (xAt 4 c) asNil))))))))
def f_l_told_12 : List D → RO := runD 5 g_l_told_12
def g_l_number : Rho → SO := (seqS (tryS 3 2 (dropS (callR 2 f_lengthened (asCons (rd 0) (asCons (rd 1) asNil))))
    (handK "TestError" fun c => (retO (disp (asCons (xIs 2 "BadNumber" c) (asCons (xVe 2) asNil))))))
    (retO (disp asNil)))
def f_l_number : List D → RO := runD 3 g_l_number
def g_l_handed_e1 : Rho → Res D := (op2 addD (rdB 4) (callR 3 f_l_mix (asCons (callR 2 f_l_cell (asCons (rd 0) (asCons (kst (.int 6)) asNil))) (asCons (kst (.int 9883)) (asCons (kst (.int 2)) asNil)))))
def g_l_handed_b1 : Rho → SO := (seqS (setS 5 (cb toTupD (asCons (frz (lc (toSeq (op2 ixD (rdB 1) (kst (.int 0)))) (tgName 4) yes g_l_handed_e1 [4])) asNil)))
    (seqS (setS 6 (callR 1 f_l_rows (asCons (rd 5) asNil)))
    (appS 2 (op2 addD (op2 ixD (rdB 6) (callR 3 f_l_mix (asCons (op2 addD (callR 2 f_l_cell (asCons (rd 0) (asCons (kst (.int 6)) asNil))) (op2 mulD (kst (.int 43)) (rdB 3))) (asCons (kst (.int 9871)) (asCons (cb lenD (asCons (rdB 6) asNil)) asNil))))) (op2 mulA (dispT (asCons (kst (.int 0)) asNil)) (op2 divD (rdB 3) (kst (.int 2))))))))
def g_l_handed : Rho → SO := (seqS (setO 2 (callO 4 f_l_drawn (asCons (rd 0) (asCons (kst (.int 5)) (asCons (rd 1) (asCons (kst (.int 4)) asNil))))))
    (seqS (forS (cb rng1 (asCons (op2 modD (callR 2 f_l_cell (asCons (rd 0) (asCons (kst (.int 1)) asNil))) (kst (.int 4))) asNil)) (tgName 3) g_l_handed_b1)
    (retV 2)))
def f_l_handed : List D → RO := runD 7 g_l_handed
def g_law_12_c1 : Rho → Res Bool := (toB (op2 neD (callR 4 f_l_told_12 (asCons (rd 8) (asCons (rd 1) (asCons (rd 2) (asCons (rd 6) asNil))))) (rdB 7)))
def g_law_12_b1 : Rho → SO := (ifS (andT (toB (op2 (inD false) (rdB 12) (rdB 10))) (toB (op2 (inD true) (rdB 12) (rdB 11)))) (appS 11 (rd 12)) SO.nx)
def g_law_12_c2 : Rho → Res Bool := (toB (op2 (inD true) (rdB 14) (rdB 10)))
def g_law_12_b2 : Rho → SO := (ifS (toB (op2 eqD (callR 2 f_l_left (asCons (rd 15) (asCons (op2 addD (sl3 cutD (rdB 13) ptN (ptS (rdB 4))) (sl3 cutD (rdB 13) (ptS (op2 addD (rdB 4) (kst (.int 1)))) ptN)) asNil))) (frz (disp asNil)))) (retS (kst (.bool false))) SO.nx)
def g_law_12_e1 : Rho → Res D := (op2 addD (rdB 12) (dispT (asCons (kst (.int 2)) asNil)))
def g_law_12 : Rho → SO := (seqS (setS 1 (callR 2 f_l_book (asCons (rd 0) (asCons (kst (.int 2)) asNil))))
    (seqS (setS 2 (callR 2 f_l_strength (asCons (rd 1) (asCons (callR 2 f_l_cell (asCons (rd 0) (asCons (kst (.int 0)) asNil))) asNil))))
    (seqS (setS 3 (callR 2 f_l_handed (asCons (rd 0) (asCons (rd 1) asNil))))
    (seqS (ifS (toB (op2 eqD (op2 modD (op2 divD (callR 2 f_l_cell (asCons (rd 0) (asCons (kst (.int 0)) asNil))) (kst (.int 4))) (kst (.int 5))) (kst (.int 4)))) (seqS (setS 4 (op2 modD (callR 2 f_l_cell (asCons (rd 0) (asCons (kst (.int 1)) asNil))) (op2 addD (cb lenD (asCons (rdB 3) asNil)) (kst (.int 1)))))
    (seqS (setS 5 (op2 ixD (frz (disp (asCons (kst .none) (asCons (frz (disp (asCons (kst (.int 0)) asNil))) (asCons (kst (.int 0)) (asCons (dispT (asCons (negR (kst (.int 1))) asNil)) (asCons (dispT (asCons (kst (.int 100)) asNil)) (asCons (dispT (asCons (kst (.bool true)) asNil)) (asCons (dispT (asCons (kst (.str (Str.ofString "0"))) asNil)) asNil))))))))) (op2 modD (op2 divD (callR 2 f_l_cell (asCons (rd 0) (asCons (kst (.int 0)) asNil))) (kst (.int 20))) (kst (.int 7)))))
    (seqS (setS 6 (op2 addD (op2 addD (sl3 cutD (rdB 3) ptN (ptS (rdB 4))) (frz (disp (asCons (rd 5) asNil)))) (sl3 cutD (rdB 3) (ptS (rdB 4)) ptN)))
    (seqS (ifS (toB (op2 eqD (op2 modD (callR 2 f_l_cell (asCons (rd 0) (asCons (kst (.int 1)) asNil))) (kst (.int 5))) (kst (.int 4)))) (seqS (setS 6 (cb toTupD (asCons (rdB 3) asNil)))
    (setS 4 (kst (.int 0)))) SO.nx)
    (seqS (setS 7 (frz (disp (asCons (kst (.bool true)) (asCons (kst (.bool true)) (asCons (kst (.str (Str.ofString "refused"))) (asCons (rd 4) asNil)))))))
    (retS (op2 eqD (frz (lc (cb rng1 (asCons (kst (.int 2)) asNil)) (tgName 8) g_law_12_c1 (rd 8) [8])) (frz (disp asNil))))))))) SO.nx)
    (seqS (setS 9 (frz (cb toListD (asCons (rdB 3) asNil))))
    (seqS (setS 10 (callR 1 f_l_tests (asCons (rd 1) asNil)))
    (seqS (setO 11 (disp asNil))
    (seqS (forS (toSeq (rd 3)) (tgName 12) g_law_12_b1)
    (seqS (setS 13 (callR 4 f_l_told_12 (asCons (kst (.int 0)) (asCons (rd 1) (asCons (rd 2) (asCons (rd 3) asNil))))))
    (seqS (ifS (orT (toB (op2 neD (rdB 3) (rdB 9))) (orT (toB (op2 neD (sl3 cutD (rdB 13) ptN (ptS (cb lenD (asCons (rdB 11) asNil)))) (rdB 11))) (toTru (frz (lc (toSeq (rdB 13)) (tgName 14) g_law_12_c2 (rd 14) [14]))))) (retS (kst (.bool false))) SO.nx)
    (seqS (setS 15 (callR 2 f_l_possible (asCons (rd 1) (asCons (rd 2) asNil))))
    (seqS (ifS (toB (op2 neD (callR 2 f_l_left (asCons (rd 15) (asCons (rd 13) asNil))) (frz (disp asNil)))) (retS (kst (.bool false))) SO.nx)
    (seqS (forS (cb rng2 (asCons (cb lenD (asCons (rdB 11) asNil)) (asCons (cb lenD (asCons (rdB 13) asNil)) asNil))) (tgName 4) g_law_12_b2)
    (seqS (setS 5 (op2 ixD (frz (disp (asCons (kst .none) (asCons (negR (kst (.int 1))) (asCons (kst (.int 4)) (asCons (kst (.bool true)) (asCons (kst (.str (Str.ofString "1"))) asNil))))))) (op2 modD (callR 2 f_l_cell (asCons (rd 0) (asCons (kst (.int 1)) asNil))) (kst (.int 5)))))
    (seqS (ifS (toB (op2 neD (callR 2 f_l_number (asCons (rd 3) (asCons (rd 5) asNil))) (frz (disp (asCons (kst (.bool true)) (asCons (kst (.bool true)) asNil)))))) (retS (kst (.bool false))) SO.nx)
    (seqS (setS 16 (frz (lc (toSeq (rdB 3)) (tgName 12) yes g_law_12_e1 [12])))
    (retS (andV (op2 eqD (callR 4 f_l_told_12 (asCons (kst (.int 1)) (asCons (rd 1) (asCons (rd 2) (asCons (rd 3) asNil))))) (rdB 16)) (op2 eqD (rdB 3) (rdB 9))))))))))))))))))))
def f_law_12 : List D → RO := runD 17 g_law_12
def g__wall_w1 : Rho → Res Bool := (toTru (kst (.bool true)))
def g__wall_b1 : Rho → SO := SO.nx
def g__wall : Rho → SO := (whileS g__wall_w1 g__wall_b1)
def f__wall : List D → RO := runD 1 g__wall
def g_look_small : Rho → SO := (seqS (dropS (callR 2 f_look_strength (asCons (rd 0) (asCons (rd 1) asNil))))
    (ifS (toB (op2 gtD (cb lenD (asCons (callR 1 f_tests_of (asCons (rd 0) asNil)) asNil)) (kst (.int 24)))) (raiseS "TooBig") SO.nx))
def f_look_small : List D → RO := runD 2 g_look_small
def g_fewest_w1 : Rho → Res Bool := (toTru (kst (.bool true)))
def g_fewest_b1 : Rho → SO := (seqS never
    (seqS (ifS (toB (isN true (rdB 4))) (retS (rd 4)) SO.nx)
    (augS 3 (kst (.int 1)))))
def g_fewest : Rho → SO := (seqS (dropS (callR 2 f_look_small (asCons (rd 0) (asCons (rd 1) asNil))))
    (seqS never
    (seqS (setS 3 (kst (.int 0)))
    (whileS g_fewest_w1 g_fewest_b1))))
def f_fewest : List D → RO := runD 5 g_fewest
def g_figure_in : Rho → SO := (seqS (ifS (orT (toB (op2 neD (cb lenD (asCons (rdB 0) asNil)) (kst (.int 1)))) (toB (op2 (inD true) (rdB 0) (kst (.str (Str.ofString "0123456789")))))) (raiseS "BadText") SO.nx)
    (retS (idxR (kst (.str (Str.ofString "0123456789"))) (rd 0))))
def f_figure_in : List D → RO := runD 1 g_figure_in
def g_pair_in : Rho → SO := (seqS (setS 1 (splitR (rdB 0) (kst (.str (Str.ofString ":")))))
    (seqS (ifS (toB (op2 neD (cb lenD (asCons (rdB 1) asNil)) (kst (.int 2)))) (raiseS "BadText") SO.nx)
    (retS (dispT (asCons (callR 1 f_figure_in (asCons (op2 ixD (rdB 1) (kst (.int 0))) asNil)) (asCons (callR 1 f_figure_in (asCons (op2 ixD (rdB 1) (kst (.int 1))) asNil)) asNil))))))
def f_pair_in : List D → RO := runD 2 g_pair_in
def g_read_e1 : Rho → Res D := (splitR (rdB 1) (kst (.str (Str.ofString " "))))
def g_read_e2 : Rho → Res D := (callR 1 f_pair_in (asCons (rd 4) asNil))
def g_read_b1 : Rho → SO := (seqS (ifS (toB (op2 neD (op2 ixD (rdB 1) (kst (.int 0))) (kst (.str (Str.ofString "ban"))))) (raiseS "BadText") SO.nx)
    (appS 3 (cb toTupD (asCons (frz (lc (toSeq (sl3 cutD (rdB 1) (ptS (kst (.int 1))) ptN)) (tgName 4) yes g_read_e2 [4])) asNil))))
def g_read_e3 : Rho → Res D := (callR 1 f_figure_in (asCons (rd 4) asNil))
def g_read : Rho → SO := (seqS (ifS (notT (toTru (isiR "str" (rdB 0)))) (raiseS "BadText") SO.nx)
    (seqS (setS 2 (frz (lc (toSeq (splitR (rdB 0) (kst (.str (Str.ofString "\n"))))) (tgName 1) yes g_read_e1 [1])))
    (seqS (ifS (orT (toB (op2 ltD (cb lenD (asCons (rdB 2) asNil)) (kst (.int 2)))) (orT (toB (op2 neD (op2 ixD (rdB 2) (negR (kst (.int 1)))) (frz (disp (asCons (kst (.str (Str.ofString ""))) asNil))))) (toB (op2 neD (op2 ixD (op2 ixD (rdB 2) (kst (.int 0))) (kst (.int 0))) (kst (.str (Str.ofString "settings"))))))) (raiseS "BadText") SO.nx)
    (seqS (setO 3 (disp asNil))
    (seqS (forS (toSeq (sl3 cutD (rdB 2) (ptS (kst (.int 1))) (ptS (negR (kst (.int 1)))))) (tgName 1) g_read_b1)
    (seqS (setS 5 (dispT (asCons (cb toTupD (asCons (frz (lc (toSeq (sl3 cutD (op2 ixD (rdB 2) (kst (.int 0))) (ptS (kst (.int 1))) ptN)) (tgName 4) yes g_read_e3 [4])) asNil)) (asCons (cb toTupD (asCons (rdB 3) asNil)) asNil))))
    (seqS (ifS (notT (toTru (callR 1 f_is_book (asCons (rd 5) asNil)))) (raiseS "BadText") SO.nx)
    (retS (rd 5)))))))))
def f_read : List D → RO := runD 6 g_read
def g_l_deed : Rho → SO := (seqS (setS 1 (dispT (asCons (dispT (asCons (kst (.int 2)) (asCons (kst (.int 2)) asNil))) (asCons (dispT asNil) asNil))))
    (seqS (ifS (toB (op2 eqD (rdB 0) (kst (.int 0)))) (retS (callR 1 f_checked (asCons (dispT asNil) asNil))) SO.nx)
    (seqS (ifS (toB (op2 eqD (rdB 0) (kst (.int 1)))) (retO (callO 2 f_possible (asCons (rd 1) (asCons (kst (.int 3)) asNil)))) SO.nx)
    (seqS (ifS (toB (op2 eqD (rdB 0) (kst (.int 2)))) (retO (callO 3 f_missing (asCons (rd 1) (asCons (kst (.int 1)) (asCons (frz (disp (asCons (dispT (asCons (kst (.int 2)) (asCons (kst (.int 0)) asNil))) asNil))) asNil))))) SO.nx)
    (seqS (ifS (toB (op2 eqD (rdB 0) (kst (.int 3)))) (retS (callR 2 f_with_setting (asCons (rd 1) (asCons (kst (.int 2)) asNil)))) SO.nx)
    (seqS (ifS (toB (op2 eqD (rdB 0) (kst (.int 4)))) (retO (callO 4 f_suspects (asCons (rd 1) (asCons (kst (.int 1)) (asCons (frz (disp (asCons (dispT (asCons (kst (.int 0)) (asCons (kst (.int 0)) asNil))) asNil))) (asCons (frz (disp asNil)) asNil)))))) SO.nx)
    (seqS (ifS (toB (op2 eqD (rdB 0) (kst (.int 5)))) (retS (callR 2 f_fewest (asCons (dispT (asCons (dispT (asCons (kst (.int 3)) (asCons (kst (.int 3)) (asCons (kst (.int 3)) asNil)))) (asCons (dispT asNil) asNil))) (asCons (kst (.int 1)) asNil)))) SO.nx)
    (retS (callR 1 f_read (asCons (kst (.str (Str.ofString ""))) asNil))))))))))
def f_l_deed : List D → RO := runD 2 g_l_deed
def g_l_kinds_of : Rho → SO := (seqS (setS 1 (frz (disp asNil)))
    (seqS (tryS 3 2 (dropS (callR 1 f_l_deed (asCons (rd 0) asNil)))
    (handK "TestError" fun c => (seqS (setS 1 (frz (disp (asCons (xIs 2 "BadBook" c) (asCons (xIs 2 "BadStrength" c) (asCons (xIs 2 "BadTests" c) asNil))))))
    (seqS (setS 1 (op2 addD (rdB 1) (frz (disp (asCons (xIs 2 "BadNumber" c) asNil)))))
    (setS 1 (op2 addD (rdB 1) (frz (disp (asCons (xIs 2 "BadResults" c) (asCons (xIs 2 "TooBig" c) (asCons (xIs 2 "BadText" c) asNil)))))))))))
    (retS (rd 1))))
def f_l_kinds_of : List D → RO := runD 3 g_l_kinds_of
def g_law_20_e1 : Rho → Res D := (op2 eqD (rdB 2) (rdB 1))
def g_law_20 : Rho → SO := (seqS (setS 1 (op2 modD (callR 2 f_l_cell (asCons (rd 0) (asCons (kst (.int 0)) asNil))) (kst (.int 7))))
    (retS (op2 eqD (callR 1 f_l_kinds_of (asCons (rd 1) asNil)) (frz (lc (cb rng1 (asCons (kst (.int 7)) asNil)) (tgName 2) yes g_law_20_e1 [2])))))
def f_law_20 : List D → RO := runD 3 g_law_20
def g_apart : Rho → SO := (seqS (dropS (callR 2 f_look_small (asCons (rd 0) (asCons (rd 1) asNil))))
    never)
def f_apart : List D → RO := runD 2 g_apart
def g_look_many : Rho → SO := (ifS (notT (toTru (callR 3 f_is_within (asCons (rd 0) (asCons (kst (.int 0)) (asCons (kst (.int 30)) asNil)))))) (raiseS "BadNumber") SO.nx)
def f_look_many : List D → RO := runD 1 g_look_many
def g_tree : Rho → SO := (seqS never
    (seqS (ifS (toB (op2 eqD (rdB 2) (kst (.int 0)))) (retS (dispT (asCons (rd 4) (asCons (dispT asNil) asNil)))) SO.nx)
    (seqS (setO 5 (disp asNil))
    (seqS never
    (retS (dispT (asCons (rd 4) (asCons (cb toTupD (asCons (rdB 5) asNil)) asNil))))))))
def f_tree : List D → RO := runD 7 g_tree
def g_paper : Rho → SO := (seqS (dropS (callR 2 f_look_small (asCons (rd 0) (asCons (rd 1) asNil))))
    (seqS (dropS (callR 1 f_look_many (asCons (rd 2) asNil)))
    (seqS never
    (seqS never
    (seqS (ifS (toB (op2 gtD (cb lenD (asCons (rdB 4) asNil)) (rdB 2))) (retS (dispT (asCons (kst (.str (Str.ofString "apart"))) (asCons (sl3 cutD (rdB 4) ptN (ptS (op2 addD (rdB 2) (kst (.int 1))))) asNil)))) SO.nx)
    (seqS never
    never))))))
def f_paper : List D → RO := runD 5 g_paper
def g_holds_apart_c1 : Rho → Res Bool := (notT (toTru (callR 4 f_is_meeting (asCons (op2 ixD (rdB 0) (kst (.int 0))) (asCons (rd 4) (asCons (rd 1) (asCons (rd 1) asNil)))))))
def g_holds_apart_c2 : Rho → Res Bool := (toTru (callR 2 f_meets (asCons (rd 7) (asCons (rd 4) asNil))))
def g_holds_apart_c3 : Rho → Res Bool := (toTru (callR 2 f_meets (asCons (rd 7) (asCons (rd 9) asNil))))
def g_holds_apart_b1 : Rho → SO := (ifS (toTru (frz (lc (toSeq (rdB 8)) (tgName 7) g_holds_apart_c3 (rd 7) [7]))) (retS (kst (.bool false))) SO.nx)
def g_holds_apart_b2 : Rho → SO := (seqS (setS 8 (frz (lc (toSeq (rdB 5)) (tgName 7) g_holds_apart_c2 (rd 7) [7])))
    (seqS (forS (toSeq (sl3 cutD (rdB 3) ptN (ptS (rdB 6)))) (tgName 9) g_holds_apart_b1)
    (ifS (notT (toTru (rdB 8))) (retS (kst (.bool false))) SO.nx)))
def g_holds_apart : Rho → SO := (seqS (ifS (orT (notT (toTru (isiR "list" (rdB 3)))) (toB (op2 leD (cb lenD (asCons (rdB 3) asNil)) (rdB 2)))) (retS (kst (.bool false))) SO.nx)
    (seqS (ifS (toTru (frz (lc (toSeq (rdB 3)) (tgName 4) g_holds_apart_c1 (rd 4) [4]))) (retS (kst (.bool false))) SO.nx)
    (seqS (setS 5 (callR 1 f_tests_of (asCons (rd 0) asNil)))
    (seqS (forS (toEnum (rd 3)) (tgPair 6 4) g_holds_apart_b2)
    (retS (kst (.bool true)))))))
def f_holds_apart : List D → RO := runD 10 g_holds_apart
def g_holds_tree_c1 : Rho → Res Bool := (toTru (callR 2 f_meets (asCons (rd 5) (asCons (op2 ixD (rdB 4) (kst (.int 0))) asNil))))
def g_holds_tree : Rho → SO := (seqS (ifS (orT (notT (toTru (isiR "tuple" (rdB 4)))) (orT (toB (op2 neD (cb lenD (asCons (rdB 4) asNil)) (kst (.int 2)))) (notT (toTru (callR 4 f_is_meeting (asCons (op2 ixD (rdB 0) (kst (.int 0))) (asCons (op2 ixD (rdB 4) (kst (.int 0))) (asCons (rd 1) (asCons (rd 1) asNil))))))))) (retS (kst (.bool false))) SO.nx)
    (seqS (setS 6 (frz (lc (toSeq (callR 1 f_tests_of (asCons (rd 0) asNil))) (tgName 5) g_holds_tree_c1 (rd 5) [5])))
    (seqS (ifS (orT (notT (toTru (rdB 6))) (orT (notT (toTru (isiR "tuple" (op2 ixD (rdB 4) (kst (.int 1)))))) (notT (toTru (callR 2 f_unmet (asCons (frz (disp (asCons (op2 ixD (rdB 4) (kst (.int 0))) asNil))) (asCons (rd 2) asNil))))))) (retS (kst (.bool false))) SO.nx)
    (seqS (ifS (toB (op2 eqD (rdB 3) (kst (.int 0)))) (retS (op2 eqD (op2 ixD (rdB 4) (kst (.int 1))) (dispT asNil))) SO.nx)
    (seqS (ifS (toB (op2 neD (cb lenD (asCons (op2 ixD (rdB 4) (kst (.int 1))) asNil)) (cb lenD (asCons (rdB 6) asNil)))) (retS (kst (.bool false))) SO.nx)
    (seqS never
    (retS (kst (.bool true)))))))))
def f_holds_tree : List D → RO := runD 8 g_holds_tree
def g_is_paper : Rho → SO := (seqS (dropS (callR 2 f_look_strength (asCons (rd 0) (asCons (rd 1) asNil))))
    (seqS (dropS (callR 1 f_look_many (asCons (rd 2) asNil)))
    (seqS (ifS (orT (notT (toTru (isiR "tuple" (rdB 3)))) (orT (toB (op2 neD (cb lenD (asCons (rdB 3) asNil)) (kst (.int 2)))) (notT (toTru (isiR "str" (op2 ixD (rdB 3) (kst (.int 0)))))))) (retS (kst (.bool false))) SO.nx)
    (seqS (ifS (toB (op2 eqD (op2 ixD (rdB 3) (kst (.int 0))) (kst (.str (Str.ofString "apart"))))) (retS (callR 4 f_holds_apart (asCons (rd 0) (asCons (rd 1) (asCons (rd 2) (asCons (op2 ixD (rdB 3) (kst (.int 1))) asNil)))))) SO.nx)
    (retS (andV (op2 eqD (op2 ixD (rdB 3) (kst (.int 0))) (kst (.str (Str.ofString "tree")))) (callR 5 f_holds_tree (asCons (rd 0) (asCons (rd 1) (asCons (frz (disp asNil)) (asCons (rd 2) (asCons (op2 ixD (rdB 3) (kst (.int 1))) asNil))))))))))))
def f_is_paper : List D → RO := runD 4 g_is_paper
def g_shown_b1 : Rho → SO := never
def g_shown : Rho → SO := (seqS (dropS (callR 1 f_checked (asCons (rd 0) asNil)))
    (seqS never
    (seqS (forS (toSeq (op2 ixD (rdB 0) (kst (.int 1)))) (tgName 3) g_shown_b1)
    (retS (rd 2)))))
def f_shown : List D → RO := runD 5 g_shown
def g_l_spoilt_b1 : Rho → SO := (appS 5 (dispT (asCons (rd 2) (asCons (op2 addD (rdB 3) (dispT (asCons (rd 7) asNil))) asNil))))
def g_l_spoilt : Rho → SO := (seqS (tgtS (tgPair 2 3) (rd 0))
    (seqS (setS 4 (dispT (asCons (dispT (asCons (kst (.int 0)) (asCons (kst (.int 0)) asNil))) asNil)))
    (seqS (setO 5 (disp (asCons (frz (cb toListD (asCons (rdB 0) asNil))) (asCons (kst .none) (asCons (sl3 cutD (rdB 0) ptN (ptS (kst (.int 1)))) (asCons (op2 addD (rdB 0) (dispT (asCons (kst (.int 0)) asNil))) (asCons (dispT (asCons (dispT asNil) (asCons (rd 3) asNil))) (asCons (dispT (asCons (frz (cb toListD (asCons (rdB 2) asNil))) (asCons (rd 3) asNil))) (asCons (dispT (asCons (op2 addD (sl3 cutD (rdB 2) ptN (ptS (negR (kst (.int 1))))) (dispT (asCons (kst (.int 0)) asNil))) (asCons (dispT asNil) asNil))) asNil)))))))))
    (seqS (setO 5 (op2 catD (rdB 5) (frz (disp (asCons (dispT (asCons (op2 addD (sl3 cutD (rdB 2) ptN (ptS (negR (kst (.int 1))))) (dispT (asCons (kst (.int 5)) asNil))) (asCons (dispT asNil) asNil))) (asCons (dispT (asCons (dispT (asCons (kst (.bool true)) asNil)) (asCons (dispT asNil) asNil))) (asCons (dispT (asCons (op2 mulA (dispT (asCons (kst (.int 4)) asNil)) (kst (.int 5))) (asCons (dispT asNil) asNil))) (asCons (dispT (asCons (op2 mulA (dispT (asCons (kst (.int 1)) asNil)) (kst (.int 7))) (asCons (dispT asNil) asNil))) asNil))))))))
    (seqS (setO 5 (op2 catD (rdB 5) (frz (disp (asCons (dispT (asCons (rd 2) (asCons (frz (cb toListD (asCons (rdB 3) asNil))) asNil))) (asCons (dispT (asCons (rd 2) (asCons (op2 mulA (dispT (asCons (rd 4) asNil)) (kst (.int 13))) asNil))) asNil))))))
    (seqS (setS 6 (frz (disp (asCons (dispT asNil) (asCons (frz (disp (asCons (dispT (asCons (kst (.int 0)) (asCons (kst (.int 0)) asNil))) asNil))) (asCons (dispT (asCons (dispT (asCons (kst (.int 0)) asNil)) asNil)) (asCons (dispT (asCons (dispT (asCons (kst (.int 0)) (asCons (op2 ixD (rdB 2) (kst (.int 0))) asNil))) asNil)) (asCons (dispT (asCons (dispT (asCons (cb lenD (asCons (rdB 2) asNil)) (asCons (kst (.int 0)) asNil))) asNil)) (asCons (dispT (asCons (dispT (asCons (kst (.int 0)) (asCons (kst (.int 0)) asNil))) (asCons (dispT (asCons (kst (.int 0)) (asCons (kst (.int 0)) asNil))) asNil))) (asCons (dispT (asCons (dispT (asCons (kst (.int 0)) (asCons (kst (.bool true)) asNil))) asNil)) asNil))))))))))
    (seqS (forS (toSeq (rd 6)) (tgName 7) g_l_spoilt_b1)
    (retS (op2 ixD (rdB 5) (op2 modD (rdB 1) (kst (.int 20))))))))))))
def f_l_spoilt : List D → RO := runD 8 g_l_spoilt
def g_l_deed_01 : Rho → SO := (seqS (ifS (toB (op2 eqD (rdB 0) (kst (.int 0)))) (retS (callR 1 f_checked (asCons (rd 1) asNil))) SO.nx)
    (seqS (ifS (toB (op2 eqD (rdB 0) (kst (.int 1)))) (retO (callO 1 f_all_tests (asCons (rd 1) asNil))) SO.nx)
    (seqS (ifS (toB (op2 eqD (rdB 0) (kst (.int 2)))) (retO (callO 2 f_all_meetings (asCons (rd 1) (asCons (kst .none) asNil)))) SO.nx)
    (seqS (ifS (toB (op2 eqD (rdB 0) (kst (.int 3)))) (retO (callO 2 f_possible (asCons (rd 1) (asCons (kst .none) asNil)))) SO.nx)
    (seqS (ifS (toB (op2 eqD (rdB 0) (kst (.int 4)))) (retO (callO 2 f_impossible (asCons (rd 1) (asCons (kst .none) asNil)))) SO.nx)
    (seqS (ifS (toB (op2 eqD (rdB 0) (kst (.int 5)))) (retO (callO 1 f_whole_bans (asCons (rd 1) asNil))) SO.nx)
    (seqS (ifS (toB (op2 eqD (rdB 0) (kst (.int 6)))) (retO (callO 3 f_missing (asCons (rd 1) (asCons (kst .none) (asCons (kst .none) asNil))))) SO.nx)
    (seqS (ifS (toB (op2 eqD (rdB 0) (kst (.int 7)))) (retO (callO 3 f_needless (asCons (rd 1) (asCons (kst .none) (asCons (kst .none) asNil))))) SO.nx)
    (seqS (ifS (toB (op2 eqD (rdB 0) (kst (.int 8)))) (retO (callO 3 f_trimmed (asCons (rd 1) (asCons (kst .none) (asCons (kst .none) asNil))))) SO.nx)
    (retO (callO 3 f_in_order (asCons (rd 1) (asCons (kst .none) (asCons (kst .none) asNil))))))))))))))
def f_l_deed_01 : List D → RO := runD 2 g_l_deed_01
def g_l_more : Rho → SO := (seqS (ifS (toB (op2 eqD (rdB 0) (kst (.int 0)))) (retO (callO 2 f_built (asCons (rd 1) (asCons (kst .none) asNil)))) SO.nx)
    (seqS (ifS (toB (op2 eqD (rdB 0) (kst (.int 1)))) (retS (callR 2 f_fewest (asCons (rd 1) (asCons (kst .none) asNil)))) SO.nx)
    (seqS (ifS (toB (op2 eqD (rdB 0) (kst (.int 2)))) (retS (callR 2 f_apart (asCons (rd 1) (asCons (kst .none) asNil)))) SO.nx)
    (seqS (ifS (toB (op2 eqD (rdB 0) (kst (.int 3)))) (retS (callR 3 f_paper (asCons (rd 1) (asCons (kst .none) (asCons (kst .none) asNil))))) SO.nx)
    (seqS (ifS (toB (op2 eqD (rdB 0) (kst (.int 4)))) (retS (callR 4 f_is_paper (asCons (rd 1) (asCons (kst .none) (asCons (kst .none) (asCons (kst .none) asNil)))))) SO.nx)
    (seqS (ifS (toB (op2 eqD (rdB 0) (kst (.int 5)))) (retS (callR 2 f_with_setting (asCons (rd 1) (asCons (kst .none) asNil)))) SO.nx)
    (seqS (ifS (toB (op2 eqD (rdB 0) (kst (.int 6)))) (retS (callR 2 f_with_ban (asCons (rd 1) (asCons (kst .none) asNil)))) SO.nx)
    (seqS (ifS (toB (op2 eqD (rdB 0) (kst (.int 7)))) (retS (callR 3 f_kept (asCons (rd 1) (asCons (kst .none) (asCons (kst .none) asNil))))) SO.nx)
    (seqS (ifS (toB (op2 eqD (rdB 0) (kst (.int 8)))) (retO (callO 4 f_suspects (asCons (rd 1) (asCons (kst .none) (asCons (kst .none) (asCons (kst .none) asNil)))))) SO.nx)
    (seqS (ifS (toB (op2 eqD (rdB 0) (kst (.int 9)))) (retO (callO 3 f_blurred (asCons (rd 1) (asCons (kst .none) (asCons (kst .none) asNil))))) SO.nx)
    (retS (callR 1 f_shown (asCons (rd 1) asNil)))))))))))))
def f_l_more : List D → RO := runD 2 g_l_more
def g_l_told_01 : Rho → SO := (seqS (tryS 3 2 (ifS (toB (op2 ltD (rdB 0) (kst (.int 10)))) (dropS (callR 2 f_l_deed_01 (asCons (rd 0) (asCons (rd 1) asNil)))) (dropS (callR 2 f_l_more (asCons (op2 subD (rdB 0) (kst (.int 10))) (asCons (rd 1) asNil)))))
    (handK "TestError" fun c => (retO (disp (asCons (xIs 2 "BadBook" c) (asCons (xVe 2) asNil))))))
    (retO (disp asNil)))
def f_l_told_01 : List D → RO := runD 3 g_l_told_01
def g_law_01_c1 : Rho → Res Bool := (toB (op2 neD (callR 2 f_l_told_01 (asCons (rd 3) (asCons (rd 2) asNil))) (frz (disp (asCons (kst (.bool true)) (asCons (kst (.bool true)) asNil))))))
def g_law_01 : Rho → SO := (seqS (setS 1 (callR 2 f_l_book (asCons (rd 0) (asCons (kst (.int 2)) asNil))))
    (seqS (ifS (toB (op2 eqD (op2 modD (callR 2 f_l_cell (asCons (rd 0) (asCons (kst (.int 0)) asNil))) (kst (.int 3))) (kst (.int 0)))) (retS (op2 eqD (callR 1 f_checked (asCons (rd 1) asNil)) (rdB 1))) SO.nx)
    (seqS (setS 2 (callR 2 f_l_spoilt (asCons (rd 1) (asCons (callR 2 f_l_cell (asCons (rd 0) (asCons (kst (.int 1)) asNil))) asNil))))
    (retS (op2 eqD (frz (lc (cb rng1 (asCons (kst (.int 21)) asNil)) (tgName 3) g_law_01_c1 (rd 3) [3])) (frz (disp asNil)))))))
def f_law_01 : List D → RO := runD 4 g_law_01
def g_l_by_strength : Rho → SO := (seqS (ifS (toB (op2 eqD (rdB 0) (kst (.int 0)))) (retO (callO 2 f_all_meetings (asCons (rd 1) (asCons (rd 2) asNil)))) SO.nx)
    (seqS (ifS (toB (op2 eqD (rdB 0) (kst (.int 1)))) (retO (callO 2 f_possible (asCons (rd 1) (asCons (rd 2) asNil)))) SO.nx)
    (seqS (ifS (toB (op2 eqD (rdB 0) (kst (.int 2)))) (retO (callO 2 f_impossible (asCons (rd 1) (asCons (rd 2) asNil)))) SO.nx)
    (seqS (ifS (toB (op2 eqD (rdB 0) (kst (.int 3)))) (retO (callO 3 f_missing (asCons (rd 1) (asCons (rd 2) (asCons (kst .none) asNil))))) SO.nx)
    (seqS (ifS (toB (op2 eqD (rdB 0) (kst (.int 4)))) (retO (callO 3 f_needless (asCons (rd 1) (asCons (rd 2) (asCons (kst .none) asNil))))) SO.nx)
    (seqS (ifS (toB (op2 eqD (rdB 0) (kst (.int 5)))) (retO (callO 3 f_trimmed (asCons (rd 1) (asCons (rd 2) (asCons (kst .none) asNil))))) SO.nx)
    (seqS (ifS (toB (op2 eqD (rdB 0) (kst (.int 6)))) (retO (callO 3 f_in_order (asCons (rd 1) (asCons (rd 2) (asCons (kst .none) asNil))))) SO.nx)
    (retO (callO 2 f_built (asCons (rd 1) (asCons (rd 2) asNil)))))))))))
def f_l_by_strength : List D → RO := runD 3 g_l_by_strength
def g_l_more_02 : Rho → SO := (seqS (ifS (toB (op2 eqD (rdB 0) (kst (.int 0)))) (retS (callR 2 f_fewest (asCons (rd 1) (asCons (rd 2) asNil)))) SO.nx)
    (seqS (ifS (toB (op2 eqD (rdB 0) (kst (.int 1)))) (retS (callR 2 f_apart (asCons (rd 1) (asCons (rd 2) asNil)))) SO.nx)
    (seqS (ifS (toB (op2 eqD (rdB 0) (kst (.int 2)))) (retS (callR 3 f_paper (asCons (rd 1) (asCons (rd 2) (asCons (kst .none) asNil))))) SO.nx)
    (seqS (ifS (toB (op2 eqD (rdB 0) (kst (.int 3)))) (retS (callR 4 f_is_paper (asCons (rd 1) (asCons (rd 2) (asCons (kst .none) (asCons (kst .none) asNil)))))) SO.nx)
    (seqS (ifS (toB (op2 eqD (rdB 0) (kst (.int 4)))) (retS (callR 3 f_kept (asCons (rd 1) (asCons (rd 2) (asCons (kst .none) asNil))))) SO.nx)
    (seqS (ifS (toB (op2 eqD (rdB 0) (kst (.int 5)))) (retO (callO 4 f_suspects (asCons (rd 1) (asCons (rd 2) (asCons (kst .none) (asCons (kst .none) asNil)))))) SO.nx)
    (retO (callO 3 f_blurred (asCons (rd 1) (asCons (rd 2) (asCons (kst .none) asNil)))))))))))
def f_l_more_02 : List D → RO := runD 3 g_l_more_02
def g_l_by_tests : Rho → SO := (seqS (ifS (toB (op2 eqD (rdB 0) (kst (.int 0)))) (retO (callO 3 f_missing (asCons (rd 1) (asCons (kst (.int 1)) (asCons (rd 2) asNil))))) SO.nx)
    (seqS (ifS (toB (op2 eqD (rdB 0) (kst (.int 1)))) (retS (callR 3 f_is_cover (asCons (rd 1) (asCons (kst (.int 1)) (asCons (rd 2) asNil))))) SO.nx)
    (seqS (ifS (toB (op2 eqD (rdB 0) (kst (.int 2)))) (retO (callO 3 f_needless (asCons (rd 1) (asCons (kst (.int 1)) (asCons (rd 2) asNil))))) SO.nx)
    (seqS (ifS (toB (op2 eqD (rdB 0) (kst (.int 3)))) (retO (callO 3 f_trimmed (asCons (rd 1) (asCons (kst (.int 1)) (asCons (rd 2) asNil))))) SO.nx)
    (seqS (ifS (toB (op2 eqD (rdB 0) (kst (.int 4)))) (retO (callO 3 f_in_order (asCons (rd 1) (asCons (kst (.int 1)) (asCons (rd 2) asNil))))) SO.nx)
    (seqS (ifS (toB (op2 eqD (rdB 0) (kst (.int 5)))) (retO (callO 4 f_suspects (asCons (rd 1) (asCons (kst (.int 1)) (asCons (rd 2) (asCons (kst .none) asNil)))))) SO.nx)
    (seqS (ifS (toB (op2 eqD (rdB 0) (kst (.int 6)))) (retO (callO 3 f_blurred (asCons (rd 1) (asCons (kst (.int 1)) (asCons (rd 2) asNil))))) SO.nx)
    (retS (callR 3 f_most_looked (asCons (rd 1) (asCons (kst (.int 1)) (asCons (rd 2) asNil))))))))))))
def f_l_by_tests : List D → RO := runD 3 g_l_by_tests
def g_l_told_02 : Rho → SO := (seqS (tryS 5 4 (ifS (toB (op2 eqD (rdB 0) (kst (.int 0)))) (dropS (callR 3 f_l_by_strength (asCons (rd 1) (asCons (rd 2) (asCons (rd 3) asNil))))) (ifS (toB (op2 eqD (rdB 0) (kst (.int 1)))) (dropS (callR 3 f_l_more_02 (asCons (rd 1) (asCons (rd 2) (asCons (rd 3) asNil))))) (dropS (callR 3 f_l_by_tests (asCons (rd 1) (asCons (rd 2) (asCons (rd 3) asNil)))))))
    (handK "TestError" fun c => (seqS (ifS (toTru (xIs 4 "BadTests" c)) (retO (disp (asCons (ofB (notT (toTru (xIs 4 "BadStrength" c)))) (asCons (xVe 4) (asCons (xAt 4 c) asNil))))) SO.nx)
    (retO (disp (asCons (xIs 4 "BadStrength" c) (asCons (xVe 4) asNil)))))))
    (retO (disp asNil)))
def f_l_told_02 : List D → RO := runD 5 g_l_told_02
def g_law_02_c1 : Rho → Res Bool := (toB (op2 neD (callR 4 f_l_told_02 (asCons (rd 3) (asCons (rd 5) (asCons (rd 1) (asCons (rd 2) asNil))))) (frz (disp (asCons (kst (.bool true)) (asCons (kst (.bool true)) asNil))))))
def g_law_02_b1 : Rho → SO := (ifS (toTru (frz (lc (cb rng1 (asCons (rdB 4) asNil)) (tgName 5) g_law_02_c1 (rd 5) [5]))) (retS (kst (.bool false))) SO.nx)
def g_law_02_c2 : Rho → Res Bool := (toB (op2 (inD true) (rdB 9) (callR 1 f_l_tests (asCons (rd 1) asNil))))
def g_law_02_c3 : Rho → Res Bool := (toB (op2 neD (callR 4 f_l_told_02 (asCons (kst (.int 2)) (asCons (rd 5) (asCons (rd 1) (asCons (rd 10) asNil))))) (frz (disp (asCons (kst (.bool true)) (asCons (kst (.bool true)) (asCons (rd 11) asNil)))))))
def g_law_02 : Rho → SO := (seqS (setS 1 (callR 2 f_l_book (asCons (rd 0) (asCons (kst (.int 3)) asNil))))
    (seqS (setS 2 (op2 ixD (frz (disp (asCons (kst .none) (asCons (kst (.int 0)) (asCons (kst (.int 4)) (asCons (kst (.bool true)) (asCons (kst (.str (Str.ofString "1"))) (asCons (frz (disp (asCons (kst (.int 1)) asNil))) (asCons (negR (kst (.int 1))) (asCons (op2 addD (op2 addD (cb lenD (asCons (op2 ixD (rdB 1) (kst (.int 0))) asNil)) (kst (.int 1))) (op2 mulD (kst (.int 3)) (cb intD1 (asCons (op2 gtD (cb lenD (asCons (op2 ixD (rdB 1) (kst (.int 0))) asNil)) (kst (.int 2))) asNil)))) (asCons (dispT (asCons (kst (.int 1)) asNil)) asNil))))))))))) (op2 modD (callR 2 f_l_cell (asCons (rd 0) (asCons (kst (.int 0)) asNil))) (kst (.int 9)))))
    (seqS (forS (toSeq (frz (disp (asCons (dispT (asCons (kst (.int 0)) (asCons (kst (.int 8)) asNil))) (asCons (dispT (asCons (kst (.int 1)) (asCons (kst (.int 7)) asNil))) asNil))))) (tgPair 3 4) g_law_02_b1)
    (seqS (setS 6 (callR 4 f_l_drawn (asCons (rd 0) (asCons (kst (.int 6)) (asCons (rd 1) (asCons (kst (.int 5)) asNil))))))
    (seqS (setS 7 (op2 modD (callR 2 f_l_cell (asCons (rd 0) (asCons (kst (.int 1)) asNil))) (op2 addD (cb lenD (asCons (rdB 6) asNil)) (kst (.int 1)))))
    (seqS (setS 8 (frz (disp (asCons (kst .none) (asCons (kst (.int 7)) (asCons (op2 mulA (dispT (asCons (kst (.int 0)) asNil)) (op2 addD (cb lenD (asCons (op2 ixD (rdB 1) (kst (.int 0))) asNil)) (kst (.int 1)))) (asCons (op2 mulA (frz (disp (asCons (kst (.int 0)) asNil))) (cb lenD (asCons (op2 ixD (rdB 1) (kst (.int 0))) asNil))) (asCons (op2 ixD (rdB 1) (kst (.int 0))) asNil))))))))
    (seqS (setS 8 (op2 addD (rdB 8) (frz (disp (asCons (op2 addD (dispT (asCons (negR (kst (.int 1))) asNil)) (sl3 cutD (op2 ixD (rdB 1) (kst (.int 0))) (ptS (kst (.int 1))) ptN)) (asCons (op2 mulA (dispT (asCons (kst (.bool true)) asNil)) (cb lenD (asCons (op2 ixD (rdB 1) (kst (.int 0))) asNil))) asNil))))))
    (seqS (setS 8 (op2 addD (op2 addD (rdB 8) (frz (disp (asCons (op2 mulA (dispT (asCons (kst (.str (Str.ofString "0"))) asNil)) (cb lenD (asCons (op2 ixD (rdB 1) (kst (.int 0))) asNil))) (asCons (dispT asNil) asNil))))) (frz (lc (toSeq (callR 1 f_l_rows (asCons (op2 ixD (rdB 1) (kst (.int 0))) asNil))) (tgName 9) g_law_02_c2 (rd 9) [9]))))
    (seqS (setS 10 (op2 addD (op2 addD (sl3 cutD (rdB 6) ptN (ptS (rdB 7))) (frz (disp (asCons (op2 ixD (rdB 8) (op2 modD (callR 2 f_l_cell (asCons (rd 0) (asCons (kst (.int 2)) asNil))) (cb lenD (asCons (rdB 8) asNil)))) asNil)))) (sl3 cutD (rdB 6) (ptS (rdB 7)) ptN)))
    (seqS (setS 11 (rd 7))
    (seqS (ifS (toB (op2 eqD (op2 modD (callR 2 f_l_cell (asCons (rd 0) (asCons (kst (.int 1)) asNil))) (kst (.int 7))) (kst (.int 6)))) (seqS (setS 10 (op2 ixD (frz (disp (asCons (kst .none) (asCons (cb toTupD (asCons (rdB 6) asNil)) (asCons (kst (.int 7)) asNil))))) (op2 modD (callR 2 f_l_cell (asCons (rd 0) (asCons (kst (.int 0)) asNil))) (kst (.int 3)))))
    (setS 11 (kst (.int 0)))) SO.nx)
    (retS (op2 eqD (frz (lc (cb rng1 (asCons (kst (.int 8)) asNil)) (tgName 5) g_law_02_c3 (rd 5) [5])) (frz (disp asNil)))))))))))))))
def f_law_02 : List D → RO := runD 12 g_law_02
end DM
end

/-! The plain part, 1: how the meanings are computed; encodings. -/
namespace DL
open PySem PySem.Spec PyProof.Rows L2
/-! ### the meanings, step by step -/
def ofS : SO → RO
  | .nx _ => .rt .none
  | .rt d => .rt d
  | .ro xs => .ro xs
  | .ex c => .ex c
  | _ => .bad
theorem runD_eq (N : Nat) (g : Rho → SO) (ds : List D) : runD N g ds = ofS (g (startR N ds)) := by
  unfold runD ofS
  cases g (startR N ds) <;> rfl
@[simp] theorem ofS_nx (ρ : Rho) : ofS (.nx ρ) = .rt .none := rfl
@[simp] theorem ofS_rt (d : D) : ofS (.rt d) = .rt d := rfl
@[simp] theorem ofS_ro (d : List D) : ofS (.ro d) = .ro d := rfl
@[simp] theorem ofS_ex (d : Exc) : ofS (.ex d) = .ex d := rfl
@[simp] theorem thenS_ap {α : Type} (f : Rho → Res α) (k : Rho → α → SO) (ρ : Rho) : thenS f k ρ = match f ρ with | .ok a => k ρ a | .ex c => .ex c | .bad => .bad := rfl
@[simp] theorem retS_ap (f : Rho → Res D) (ρ : Rho) : retS f ρ = thenS f (fun _ d => .rt d) ρ := rfl
@[simp] theorem retO_ap (f : Rho → Res (List D)) (ρ : Rho) : retO f ρ = thenS f (fun _ d => .ro d) ρ := rfl
@[simp] theorem dropS_ap (f : Rho → Res D) (ρ : Rho) : dropS f ρ = thenS f (fun ρ _ => .nx ρ) ρ := rfl
@[simp] theorem setS_ap (i : Nat) (f : Rho → Res D) (ρ : Rho) : setS i f ρ = thenS f (fun ρ a => .nx (ρ.set i (some (.d a)))) ρ := rfl
@[simp] theorem setO_ap (i : Nat) (f : Rho → Res (List D)) (ρ : Rho) : setO i f ρ = thenS f (fun ρ a => .nx (ρ.set i (some (.own a)))) ρ := rfl
@[simp] theorem seqS_ap (g k : Rho → SO) (ρ : Rho) : seqS g k ρ = match g ρ with | .nx ρ' => k ρ' | o => o := rfl
@[simp] theorem ifS_ap (c : Rho → Res Bool) (g k : Rho → SO) (ρ : Rho) : ifS c g k ρ = thenS c (fun ρ b => if b = true then g ρ else k ρ) ρ := rfl
@[simp] theorem forS_ap (fi : Rho → Res (List D)) (t : Tg) (b : Rho → SO) (ρ : Rho) : forS fi t b ρ = thenS fi (fun ρ xs => forL t b xs ρ) ρ := rfl
@[simp] theorem never_ap (ρ : Rho) : never ρ = .bad := rfl
@[simp] theorem op2_ap {α : Type} (g : D → D → Option α) (fa fb : Rho → Res D) (ρ : Rho) : op2 g fa fb ρ = (fa ρ).bind fun a => (fb ρ).bind fun b => .of (g a b) := rfl
@[simp] theorem toTru_ap (f : Rho → Res D) (ρ : Rho) : toTru f ρ = (f ρ).bind fun d => .of (truD d) := rfl
@[simp] theorem toB_ap (f : Rho → Res D) (ρ : Rho) : toB f ρ = (f ρ).bind fun d => .of (boolD d) := rfl
@[simp] theorem ofB_ap (f : Rho → Res Bool) (ρ : Rho) : ofB f ρ = (f ρ).map PyData.bool := rfl
@[simp] theorem andT_ap (f g : Rho → Res Bool) (ρ : Rho) : andT f g ρ = (f ρ).bind fun b => if b = true then g ρ else .ok false := rfl
@[simp] theorem orT_ap (f g : Rho → Res Bool) (ρ : Rho) : orT f g ρ = (f ρ).bind fun b => if b = true then .ok true else g ρ := rfl
@[simp] theorem notT_ap (f : Rho → Res Bool) (ρ : Rho) : notT f ρ = (f ρ).map not := rfl
@[simp] theorem andV_ap (f g : Rho → Res D) (ρ : Rho) : andV f g ρ = (toB f ρ).bind fun b => if b = true then g ρ else .ok (.bool false) := rfl
@[simp] theorem orV_ap (f g : Rho → Res D) (ρ : Rho) : orV f g ρ = (toB f ρ).bind fun b => if b = true then .ok (.bool true) else g ρ := rfl
@[simp] theorem chV_ap (k k' : D → D → Option D) (f g e : Rho → Res D) (ρ : Rho) : chV k k' f g e ρ = (f ρ).bind fun a => (g ρ).bind fun b => (Res.of ((k a b).bind boolD)).bind fun t => if t = true then (e ρ).bind fun c => .of (k' b c) else .ok (.bool false) := rfl
@[simp] theorem asNil_ap (ρ : Rho) : asNil ρ = .ok [] := rfl
@[simp] theorem asCons_ap (f : Rho → Res D) (g : Rho → Res (List D)) (ρ : Rho) : asCons f g ρ = (f ρ).bind fun d => (g ρ).map (d :: ·) := rfl
@[simp] theorem disp_ap (g : Rho → Res (List D)) (ρ : Rho) : disp g ρ = (g ρ).bind fun ds => if ds.length ≤ 1000 then .ok ds else .bad := rfl
@[simp] theorem dispT_ap (g : Rho → Res (List D)) (ρ : Rho) : dispT g ρ = (disp g ρ).map PyData.tuple := rfl
@[simp] theorem cb_ap {α : Type} (k : List D → Option α) (g : Rho → Res (List D)) (ρ : Rho) : cb k g ρ = (g ρ).bind fun ds => .of (k ds) := rfl
@[simp] theorem isiR_ap (T : String) (f : Rho → Res D) (ρ : Rho) : isiR T f ρ = (f ρ).bind fun d => .of ((isiD T d).map PyData.bool) := rfl
@[simp] theorem ptN_ap (ρ : Rho) : ptN ρ = .ok none := rfl
@[simp] theorem ptS_ap (f : Rho → Res D) (ρ : Rho) : ptS f ρ = (f ρ).bind fun d => (Res.of (intOf d)).map some := rfl
@[simp] theorem sl3_ap {α : Type} (g : D → Option Int → Option Int → Option α) (f : Rho → Res D) (lo hi : Rho → Res (Option Int)) (ρ : Rho) : sl3 g f lo hi ρ = (f ρ).bind fun a => (lo ρ).bind fun l => (hi ρ).bind fun u => .of (g a l u) := rfl
@[simp] theorem toSeq_ap (f : Rho → Res D) (ρ : Rho) : toSeq f ρ = (f ρ).bind fun d => .of (seqOf d) := rfl
@[simp] theorem toEnum_ap (f : Rho → Res D) (ρ : Rho) : toEnum f ρ = (f ρ).bind fun d => (Res.of (seqOf d)).map enumL := rfl
@[simp] theorem yes_ap (ρ : Rho) : yes ρ = .ok true := rfl
@[simp] theorem frz_ap (f : Rho → Res (List D)) (ρ : Rho) : frz f ρ = (f ρ).map PyData.list := rfl
@[simp] theorem kst_ap (d : D) (ρ : Rho) : kst d ρ = .ok d := rfl
@[simp] theorem rd_ap (i : Nat) (ρ : Rho) : rd i ρ = match ρ[i]? with | some (some (.d x)) => .ok x | _ => .bad := rfl
@[simp] theorem rdB_ap (i : Nat) (ρ : Rho) : rdB i ρ = match ρ[i]? with | some (some (.d x)) => .ok x | some (some (.own xs)) => .ok (.list xs) | _ => .bad := rfl
@[simp] theorem retV_ap (i : Nat) (ρ : Rho) : retV i ρ = match ρ[i]? with | some (some (.own xs)) => .ro xs | some (some (.d x)) => .rt x | _ => .bad := rfl
@[simp] theorem frzAt_ap (i : Nat) (ρ : Rho) : frzAt i ρ = match ρ[i]? with | some (some (.own xs)) => ρ.set i (some (.d (.list xs))) | _ => ρ := rfl
@[simp] theorem appS_own {i : Nat} {ρ : Rho} {xs : List D} (f : Rho → Res D) (h : ρ[i]? = some (some (.own xs))) : appS i f ρ = thenS f (fun ρ d => if xs.length < sizeLine then .nx (ρ.set i (some (.own (xs ++ [d])))) else .bad) ρ := by
  unfold appS ownS
  rw [h]
theorem extS_own {i : Nat} {ρ : Rho} {xs ys : List D} {f : Rho → Res D} (h : ρ[i]? = some (some (.own xs))) (hf : f ρ = .ok (.list ys)) (hz : xs.length + ys.length ≤ sizeLine) : extS i f ρ = .nx (ρ.set i (some (.own (xs ++ ys)))) := by
  unfold extS ownS
  rw [h]
  show thenS f _ ρ = _
  unfold thenS
  rw [hf]
  show (if _ then _ else _) = _
  rw [if_pos hz]
@[simp] theorem dnewS_ap (i : Nat) (ρ : Rho) : dnewS i ρ = .nx (ρ.set i (some (.dct []))) := rfl
theorem dputS_at {i : Nat} {ρ : Rho} {kvs : List (D × D)} {k v : D} {fk fv : Rho → Res D} (h : ρ[i]? = some (some (.dct kvs))) (hv : fv ρ = .ok v) (hk : fk ρ = .ok k) (ok : okKey k = true) (hz : kvs.length < sizeLine) : dputS i fk fv ρ = .nx (ρ.set i (some (.dct (putK kvs k v)))) := by
  unfold dputS thenS
  simp only [hv, h, hk, ok, decide_eq_true hz, Bool.and_self, if_true]
@[simp] theorem tgtS_ap (t : Tg) (f : Rho → Res D) (ρ : Rho) : tgtS t f ρ = thenS f (fun ρ d => match t.run d ρ with | .ok ρ' => .nx ρ' | _ => .bad) ρ := rfl
@[simp] theorem negR_ap (f : Rho → Res D) (ρ : Rho) : negR f ρ = (f ρ).bind fun d => match d with | .int i => .ok (.int (-i)) | _ => .bad := rfl
@[simp] theorem callR_ap (n : Nat) (f : List D → RO) (g : Rho → Res (List D)) (ρ : Rho) : callR n f g ρ = (g ρ).bind fun ds => if ds.length = n then (f ds).res else .bad := rfl
@[simp] theorem callO_ap (n : Nat) (f : List D → RO) (g : Rho → Res (List D)) (ρ : Rho) : callO n f g ρ = (g ρ).bind fun ds => if ds.length = n then (f ds).own else .bad := rfl
@[simp] theorem res_rt (d : D) : (RO.rt d).res = .ok d := rfl
@[simp] theorem res_ro (d : List D) : (RO.ro d).res = .ok (.list d) := rfl
@[simp] theorem res_ex (c : Exc) : (RO.ex c).res = .ex c := rfl
@[simp] theorem own_ro (d : List D) : (RO.ro d).own = .ok d := rfl
@[simp] theorem own_ex (c : Exc) : (RO.ex c).own = .ex c := rfl
@[simp] theorem tgName_run (i : Nat) (d : D) (ρ : Rho) : (tgName i).run d ρ = .ok (ρ.set i (some (.d d))) := rfl
@[simp] theorem tgPair_run (i j : Nat) (x y : D) (ρ : Rho) : (tgPair i j).run (.tuple [x, y]) ρ = .ok ((ρ.set i (some (.d x))).set j (some (.d y))) := rfl
@[simp] theorem truD_bool (b : Bool) : truD (.bool b) = some b := rfl
@[simp] theorem truD_list (b : List D) : truD (.list b) = some (!b.isEmpty) := rfl
@[simp] theorem truD_tup (b : List D) : truD (.tuple b) = some (!b.isEmpty) := rfl
@[simp] theorem truD_int (i : Int) : truD (.int i) = some (i != 0) := rfl
@[simp] theorem boolD_bool (b : Bool) : boolD (.bool b) = some b := rfl
@[simp] theorem seqOf_list (b : List D) : seqOf (.list b) = some b := rfl
@[simp] theorem seqOf_tup (b : List D) : seqOf (.tuple b) = some b := rfl
@[simp] theorem lenD_list (b : List D) : lenD [.list b] = some (.int b.length) := rfl
@[simp] theorem lenD_tup (b : List D) : lenD [.tuple b] = some (.int b.length) := rfl
@[simp] theorem minD_int (i j : Int) : minD [.int i, .int j] = some (.int (if j < i then j else i)) := rfl
@[simp] theorem maxD_int (i j : Int) : maxD [.int i, .int j] = some (.int (if j > i then j else i)) := rfl
@[simp] theorem toListD_list (xs : List D) : toListD [.list xs] = some xs := rfl
@[simp] theorem toTupD_list (xs : List D) : toTupD [.list xs] = some (.tuple xs) := rfl
@[simp] theorem cmpI_int (p : Int → Int → Bool) (i j : Int) : cmpI p (.int i) (.int j) = some (.bool (p i j)) := rfl
@[simp] theorem intD_int (c : Int → Int → Bool) (g : Int → Int → Int) (i j : Int) : intD c g (.int i) (.int j) = if c i j = true then some (.int (g i j)) else none := rfl
@[simp] theorem addD_int (i j : Int) : addD (.int i) (.int j) = some (.int (i + j)) := rfl
@[simp] theorem addD_list (i j : List D) : addD (.list i) (.list j) = if i.length + j.length ≤ sizeLine then some (.list (i ++ j)) else none := rfl
@[simp] theorem addD_tup (i j : List D) : addD (.tuple i) (.tuple j) = if i.length + j.length ≤ sizeLine then some (.tuple (i ++ j)) else none := rfl
@[simp] theorem ixD_list (xs : List D) (i : Int) : ixD (.list xs) (.int i) = atI xs i := rfl
@[simp] theorem ixD_tup (xs : List D) (i : Int) : ixD (.tuple xs) (.int i) = atI xs i := rfl
@[simp] theorem rng1_int (j : Int) : rng1 [.int j] = if smallR j = true then some (upTo 0 j.toNat) else none := rfl
@[simp] theorem rng2_int (i j : Int) : rng2 [.int i, .int j] = if (smallR i && smallR j) = true then some (upTo i (j - i).toNat) else none := rfl
@[simp] theorem isi_int_int (i : Int) : isiD "int" (.int i) = some true := rfl
@[simp] theorem isi_bool_int (i : Int) : isiD "bool" (.int i) = some false := rfl
@[simp] theorem isi_tup_tup (xs : List D) : isiD "tuple" (.tuple xs) = some true := rfl
@[simp] theorem isi_list_list (xs : List D) : isiD "list" (.list xs) = some true := rfl
@[simp] theorem intOf_int (i : Int) : intOf (.int i) = some i := rfl
@[simp] theorem noex_map_ok {α : Type} (a : α) : (Res.ok a).noex = .ok a := rfl
theorem atI_nat {xs : List D} {i : Nat} {x : D} (h : xs[i]? = some x) : atI xs (i : Int) = some x := L2.atI_nat h
@[simp] theorem atI_zero (x : D) (xs : List D) : atI (x :: xs) 0 = some x := L2.atI_nat (j := 0) rfl
@[simp] theorem atI_one (x y : D) (xs : List D) : atI (x :: y :: xs) 1 = some y := L2.atI_nat (j := 1) rfl
/-! ### loops -/
theorem forL_inv {α : Type} {t : Tg} {b : Rho → SO} {enc : α → D} (I : List α → Rho → Prop) (xs : List α) (step : ∀ done x rest ρ, xs = done ++ x :: rest → I done ρ → ∃ ρ1 ρ2, t.run (enc x) ρ = .ok ρ1 ∧ b ρ1 = .nx ρ2 ∧ I (done ++ [x]) ρ2) {ρ : Rho} (h0 : I [] ρ) :
    ∃ ρ', forL t b (xs.map enc) ρ = .nx ρ' ∧ I xs ρ' := by
  suffices ∀ (rest done : List α) (ρ : Rho), xs = done ++ rest → I done ρ → ∃ ρ', forL t b (rest.map enc) ρ = .nx ρ' ∧ I xs ρ' from this xs [] ρ rfl h0
  intro rest
  induction rest with
  | nil =>
    intro done ρ e h
    rw [List.append_nil] at e
    subst e
    exact ⟨ρ, rfl, h⟩
  | cons x rest ih =>
    intro done ρ e h
    obtain ⟨ρ1, ρ2, h1, h2, h3⟩ := step done x rest ρ e h
    obtain ⟨ρ', h4, h5⟩ := ih (done ++ [x]) ρ2 (by rw [e, List.append_assoc]; rfl) h3
    refine ⟨ρ', ?_, h5⟩
    rw [List.map_cons]
    unfold forL
    rw [h1]
    show (match b ρ1 with | .nx ρ2 => _ | .ct ρ2 => _ | .bk ρ2 => _ | o => o) = _
    rw [h2]
    exact h4
theorem lcL_map {α : Type} {t : Tg} {c : Rho → Res Bool} {e : Rho → Res D} {ρ : Rho} {enc : α → D} {p : α → Bool} {g : α → D} : ∀ (xs : List α), (∀ x ∈ xs, ∃ ρ1, t.run (enc x) ρ = .ok ρ1 ∧ c ρ1 = .ok (p x) ∧ (p x = true → e ρ1 = .ok (g x))) →
    lcL t c e ρ (xs.map enc) = .ok ((xs.filter p).map g)
  | [], _ => rfl
  | x :: xs, h => by
    obtain ⟨ρ1, h1, h2, h3⟩ := h x List.mem_cons_self
    have ih := lcL_map (ρ := ρ) (t := t) (c := c) (e := e) (enc := enc) (p := p) (g := g) xs fun y hy => h y (List.mem_cons_of_mem _ hy)
    rw [List.map_cons]
    unfold lcL
    rw [h1, noex_map_ok, Res.bind_ok, h2, noex_map_ok, Res.bind_ok, ih]
    cases hp : p x with
    | false => rw [if_neg (by decide), List.filter_cons_of_neg (by rw [hp]; decide)]
    | true => rw [if_pos rfl, h3 hp, noex_map_ok, Res.bind_ok, List.filter_cons_of_pos hp]; rfl
theorem lc_map {α : Type} {fi : Rho → Res (List D)} {t : Tg} {c : Rho → Res Bool} {e : Rho → Res D} {vs : List Nat} {ρ : Rho} {enc : α → D} {p : α → Bool} {g : α → D} (xs : List α) (hf : fi ρ = .ok (xs.map enc))
    (h : ∀ x ∈ xs, ∃ ρ1, t.run (enc x) (wipeR ρ vs) = .ok ρ1 ∧ c ρ1 = .ok (p x) ∧ (p x = true → e ρ1 = .ok (g x))) : lc fi t c e vs ρ = .ok ((xs.filter p).map g) := by
  unfold lc
  rw [hf, Res.bind_ok, lcL_map xs h]
  rfl
theorem sizeLine_big : 1000000 < sizeLine := by rw [sizeLine_eq]; decide
/-! ### encodings -/
def eN (n : Nat) : D := .int (n : Int)
def eR (r : List Nat) : D := .tuple (r.map eN)
def eP (p : Nat × Nat) : D := .tuple [eN p.1, eN p.2]
def eM (m : List (Nat × Nat)) : D := .tuple (m.map eP)
def eB (b : List Nat × List (List (Nat × Nat))) : D := .tuple [eR b.1, .tuple (b.2.map eM)]
/-! ### equality of data: numbers, tuples, lists -/
mutual
/-- data of ints, tuples, lists -/
def nums : D → Bool
  | .int _ => true
  | .tuple xs => numsA xs
  | .list xs => numsA xs
  | _ => false
def numsA : List D → Bool
  | [] => true
  | x :: xs => nums x && numsA xs
end
mutual
theorem eqv_nums : ∀ a b : D, nums a = true → nums b = true → (PyData.eqv a b = true ↔ a = b)
  | .int i, b, _, hb => by
    cases b with
    | int j => simp [PyData.eqv]
    | _ => simp [PyData.eqv, nums] at hb ⊢
  | .tuple xs, b, ha, hb => by
    cases b with
    | tuple ys =>
      have := eqvA_nums xs ys (by simpa [nums] using ha) (by simpa [nums] using hb)
      simp [PyData.eqv, this]
    | _ => simp [PyData.eqv, nums] at hb ⊢
  | .list xs, b, ha, hb => by
    cases b with
    | list ys =>
      have := eqvA_nums xs ys (by simpa [nums] using ha) (by simpa [nums] using hb)
      simp [PyData.eqv, this]
    | _ => simp [PyData.eqv, nums] at hb ⊢
  | .none, _, ha, _ => by cases ha
  | .bool _, _, ha, _ => by cases ha
  | .str _, _, ha, _ => by cases ha
  | .dict _, _, ha, _ => by cases ha
theorem eqvA_nums : ∀ xs ys : List D, numsA xs = true → numsA ys = true → (PyData.eqvAll xs ys = true ↔ xs = ys)
  | [], [], _, _ => by simp [PyData.eqvAll]
  | [], _ :: _, _, _ => by simp [PyData.eqvAll]
  | _ :: _, [], _, _ => by simp [PyData.eqvAll]
  | x :: xs, y :: ys, ha, hb => by
    simp only [numsA, Bool.and_eq_true] at ha hb
    have h1 := eqv_nums x y ha.1 hb.1
    have h2 := eqvA_nums xs ys ha.2 hb.2
    simp [PyData.eqvAll, h1, h2]
end
theorem eqv_dec {a b : D} {P : Prop} [Decidable P] (ha : nums a = true) (hb : nums b = true) (h : a = b ↔ P) : PyData.eqv a b = decide P := by
  rw [Bool.eq_iff_iff, eqv_nums a b ha hb, h]
  exact decide_eq_true_iff.symm
mutual
theorem nums_lay : ∀ a : D, nums a = true → a.canLay0 = true
  | .int _, _ => rfl
  | .tuple xs, h => by simpa [PyData.canLay0] using numsA_lay xs (by simpa [nums] using h)
  | .list xs, h => by simpa [PyData.canLay0] using numsA_lay xs (by simpa [nums] using h)
  | .none, h => by cases h
  | .bool _, h => by cases h
  | .str _, h => by cases h
  | .dict _, h => by cases h
theorem numsA_lay : ∀ a : List D, numsA a = true → PyData.canLayAll0 a = true
  | [], _ => rfl
  | x :: xs, h => by
    simp only [numsA, Bool.and_eq_true] at h
    simp [PyData.canLayAll0, nums_lay x h.1, numsA_lay xs h.2]
end
theorem numsA_iff (xs : List D) : numsA xs = true ↔ ∀ x ∈ xs, nums x = true := by
  induction xs with
  | nil => simp [numsA]
  | cons x xs ih => simp [numsA, ih]
theorem depthAll_le (xs : List D) (n : Nat) (h : ∀ x ∈ xs, x.depth ≤ n) : PyData.depthAll xs ≤ n := by
  induction xs with
  | nil => simp [PyData.depthAll]
  | cons x xs ih =>
    have h1 := h x List.mem_cons_self
    have h2 := ih fun y hy => h y (List.mem_cons_of_mem _ hy)
    simp [PyData.depthAll]
    omega
/-- data of ints, of depth n at most -/
def Nm (n : Nat) (d : D) : Prop := nums d = true ∧ d.depth ≤ n
theorem Nm.shaped {n : Nat} {d : D} (h : Nm n d) (hn : n ≤ 64) : SeqAt.shaped d = true := by
  unfold SeqAt.shaped
  rw [nums_lay d h.1, decide_eq_true (Nat.le_trans h.2 hn)]
  rfl
theorem Nm.int (i : Int) : Nm 0 (.int i) := ⟨rfl, by simp [PyData.depth]⟩
theorem Nm.list {n : Nat} {xs : List D} (h : ∀ x ∈ xs, Nm n x) : Nm (n + 1) (.list xs) := ⟨by simpa [nums] using (numsA_iff xs).mpr fun x hx => (h x hx).1, by
  have := depthAll_le xs n fun x hx => (h x hx).2
  simp [PyData.depth]
  omega⟩
theorem Nm.tup {n : Nat} {xs : List D} (h : ∀ x ∈ xs, Nm n x) : Nm (n + 1) (.tuple xs) := ⟨by simpa [nums] using (numsA_iff xs).mpr fun x hx => (h x hx).1, by
  have := depthAll_le xs n fun x hx => (h x hx).2
  simp [PyData.depth]
  omega⟩
theorem Nm.le {m n : Nat} {d : D} (h : Nm m d) (e : m ≤ n) : Nm n d := ⟨h.1, Nat.le_trans h.2 e⟩
theorem nmN (n : Nat) : Nm 0 (eN n) := .int _
theorem nmR (r : List Nat) : Nm 1 (eR r) := .tup fun x hx => by
  obtain ⟨n, _, rfl⟩ := List.mem_map.mp hx
  exact nmN n
theorem nmP (p : Nat × Nat) : Nm 1 (eP p) := .tup fun x hx => by
  rcases List.mem_cons.mp hx with rfl | hx
  · exact nmN _
  · rcases List.mem_cons.mp hx with rfl | hx
    · exact nmN _
    · cases hx
theorem nmM (m : List (Nat × Nat)) : Nm 2 (eM m) := .tup fun x hx => by
  obtain ⟨p, _, rfl⟩ := List.mem_map.mp hx
  exact nmP p
theorem nmRs (rs : List (List Nat)) : Nm 2 (.list (rs.map eR)) := .list fun x hx => by
  obtain ⟨p, _, rfl⟩ := List.mem_map.mp hx
  exact nmR p
theorem nmMs (rs : List (List (Nat × Nat))) : Nm 3 (.list (rs.map eM)) := .list fun x hx => by
  obtain ⟨p, _, rfl⟩ := List.mem_map.mp hx
  exact nmM p
theorem nmNil : Nm 1 (.list []) := .list fun x hx => by cases hx
theorem eqD_nm {m n : Nat} {a b : D} {P : Prop} [Decidable P] (ha : Nm m a) (hb : Nm n b) (hm : m ≤ 64) (hn : n ≤ 64) (h : a = b ↔ P) : eqD a b = some (.bool (decide P)) := by
  unfold eqD
  rw [if_pos ⟨ha.shaped hm, hb.shaped hn⟩, eqv_dec ha.1 hb.1 h]
theorem neD_nm {m n : Nat} {a b : D} {P : Prop} [Decidable P] (ha : Nm m a) (hb : Nm n b) (hm : m ≤ 64) (hn : n ≤ 64) (h : a = b ↔ P) : neD a b = some (.bool (!decide P)) := by
  unfold neD
  rw [if_pos ⟨ha.shaped hm, hb.shaped hn⟩, eqv_dec ha.1 hb.1 h]
@[simp] theorem eqD_int (i j : Int) : eqD (.int i) (.int j) = some (.bool (decide (i = j))) := eqD_nm (.int i) (.int j) (by decide) (by decide) (by simp)
@[simp] theorem neD_int (i j : Int) : neD (.int i) (.int j) = some (.bool (!decide (i = j))) := neD_nm (.int i) (.int j) (by decide) (by decide) (by simp)
theorem eN_inj {a b : Nat} : eN a = eN b ↔ a = b := by simp [eN]; omega
theorem map_inj {α β : Type} {f : α → β} (h : ∀ a b, f a = f b → a = b) : ∀ {xs ys : List α}, xs.map f = ys.map f → xs = ys
  | [], [], _ => rfl
  | [], _ :: _, e => by simp at e
  | _ :: _, [], e => by simp at e
  | x :: xs, y :: ys, e => by
    simp only [List.map_cons, List.cons.injEq] at e
    rw [h _ _ e.1, map_inj h e.2]
theorem eR_inj {a b : List Nat} (h : eR a = eR b) : a = b := map_inj (fun _ _ => eN_inj.mp) (PyData.tuple.inj h)
theorem eP_inj {a b : Nat × Nat} (h : eP a = eP b) : a = b := by
  simp only [eP, PyData.tuple.injEq, List.cons.injEq, and_true, eN_inj] at h
  exact Prod.ext h.1 h.2
theorem eM_inj {a b : List (Nat × Nat)} (h : eM a = eM b) : a = b := map_inj (fun _ _ => eP_inj) (PyData.tuple.inj h)
end DL

/-! The plain part, 2: books, rows, tests. -/
namespace DL
open PySem PySem.Spec PyProof.Rows L2
abbrev Row := List Nat
abbrev Meet := List (Nat × Nat)
abbrev Book := List Nat × List Meet
def meets (t : Row) (m : Meet) : Bool := m.all fun p => t[p.1]? == some p.2
def allowed (b : Book) (t : Row) : Bool := b.2.all fun ban => !meets t ban
def stepRows (found : List Row) (level : Nat) : List Row := found.flatMap fun r => (List.range level).map fun s => r ++ [s]
def rows (lv : List Nat) : List Row := lv.foldl stepRows [[]]
def tests (b : Book) : List Row := (rows b.1).filter (allowed b)
/-- a meeting within the levels: things rising, settings there are -/
structure IsMeet (lv : List Nat) (m : Meet) : Prop where
  lo : 1 ≤ m.length
  hi : m.length ≤ 3
  inc : m.Pairwise fun p q => p.1 < q.1
  at_ : ∀ p ∈ m, ∃ l, lv[p.1]? = some l ∧ p.2 < l
structure WL (lv : List Nat) : Prop where
  lo : 1 ≤ lv.length
  hi : lv.length ≤ 4
  lev : ∀ l ∈ lv, 1 ≤ l ∧ l ≤ 3
structure WF (b : Book) : Prop where
  wl : WL b.1
  bans : b.2.length ≤ 3
  ban : ∀ m ∈ b.2, IsMeet b.1 m
theorem IsMeet.lt {lv : List Nat} {m : Meet} (h : IsMeet lv m) : ∀ p ∈ m, p.1 < lv.length := fun p hp => by
  obtain ⟨l, e, _⟩ := h.at_ p hp
  exact (List.getElem?_eq_some_iff.mp e).1
theorem atR {t : Row} {i : Nat} (h : i < t.length) : atI (t.map eN) (i : Int) = some (eN t[i]) := atI_nat (by rw [List.getElem?_map, List.getElem?_eq_getElem h]; rfl)
theorem isEmpty_map {α β : Type} (f : α → β) (xs : List α) : (xs.map f).isEmpty = xs.isEmpty := by cases xs <;> rfl
theorem not_filter_empty {α : Type} (p : α → Bool) (xs : List α) : (xs.filter p).isEmpty = xs.all fun x => !p x := by
  induction xs with
  | nil => rfl
  | cons x xs ih => cases hp : p x <;> simp [List.filter_cons, hp, ih]
section
open DM
theorem c_meets {t : Row} {p : Nat × Nat} {y : Option B} (h : p.1 < t.length) : g_meets_c1 [some (.d (eR t)), y, some (.d (eP p))] = .ok (!(t[p.1]? == some p.2)) := by
  simp [g_meets_c1, eR, eP]
  rw [show (eN p.1) = .int (p.1 : Int) from rfl, ixD_tup, atR h]
  simp [eN, h, Int.ofNat_inj]
  rw [Bool.eq_iff_iff]
  simp
theorem m_meets {t : Row} {m : Meet} (h : ∀ p ∈ m, p.1 < t.length) : f_meets [eR t, eM m] = .rt (.bool (meets t m)) := by
  have e : lc (toSeq (rdB 1)) (tgName 2) g_meets_c1 (rd 2) [2] [some (.d (eR t)), some (.d (eM m)), none] = .ok ((m.filter fun p => !(t[p.1]? == some p.2)).map eP) :=
    lc_map (enc := eP) m (by simp [eM]) fun p hp => ⟨[some (.d (eR t)), some (.d (eM m)), some (.d (eP p))], by simp [wipeR], c_meets (h p hp), fun _ => by simp⟩
  unfold f_meets
  rw [runD_eq]
  show ofS (g_meets [some (.d (eR t)), some (.d (eM m)), none]) = _
  unfold g_meets
  simp [e, isEmpty_map, not_filter_empty, meets]
theorem m_l_meets {t : Row} {m : Meet} (h : ∀ p ∈ m, p.1 < t.length) : f_l_meets [eR t, eM m] = .rt (.bool (meets t m)) := by
  have e : lc (toSeq (rdB 1)) (tgName 2) g_l_meets_c1 (rd 2) [2] [some (.d (eR t)), some (.d (eM m)), none] = .ok ((m.filter fun p => !(t[p.1]? == some p.2)).map eP) :=
    lc_map (enc := eP) m (by simp [eM]) fun p hp => ⟨[some (.d (eR t)), some (.d (eM m)), some (.d (eP p))], by simp [wipeR], c_meets (h p hp), fun _ => by simp⟩
  unfold f_l_meets
  rw [runD_eq]
  show ofS (g_l_meets [some (.d (eR t)), some (.d (eM m)), none]) = _
  unfold g_l_meets
  have nm : Nm 3 (.list ((m.filter fun p => !(t[p.1]? == some p.2)).map eP)) := .list fun x hx => by
    obtain ⟨p, _, rfl⟩ := List.mem_map.mp hx
    exact (nmP p).le (by decide)
  have q := eqD_nm (P := meets t m = true) nm nmNil (by decide) (by decide) (by simp [meets])
  simp [e, q]
theorem m_is_allowed {b : Book} {t : Row} (h : ∀ m ∈ b.2, ∀ p ∈ m, p.1 < t.length) : f_is_allowed [eB b, eR t] = .rt (.bool (allowed b t)) := by
  have e : lc (toSeq (op2 ixD (rdB 0) (kst (.int 1)))) (tgName 2) g_is_allowed_c1 (rd 2) [2] [some (.d (eB b)), some (.d (eR t)), none] = .ok ((b.2.filter fun m => meets t m).map eM) :=
    lc_map (enc := eM) b.2 (by simp [eB]) fun m hm => ⟨[some (.d (eB b)), some (.d (eR t)), some (.d (eM m))], by simp [wipeR], by simp [g_is_allowed_c1, m_meets (h m hm)], fun _ => by simp⟩
  unfold f_is_allowed
  rw [runD_eq]
  show ofS (g_is_allowed [some (.d (eB b)), some (.d (eR t)), none]) = _
  unfold g_is_allowed
  simp [e, isEmpty_map, not_filter_empty, allowed]
/-! ### rows -/
theorem upTo_N (n : Nat) : upTo 0 n = (List.range n).map eN := by simp [upTo, eN]
theorem rows_snoc (lv : List Nat) (l : Nat) : rows (lv ++ [l]) = stepRows (rows lv) l := by simp [rows, List.foldl_append]
theorem step_len (f : List Row) (l : Nat) : (stepRows f l).length = f.length * l := by
  unfold stepRows
  induction f with
  | nil => simp
  | cons r f ih => simp [List.flatMap_cons, ih, Nat.add_mul]; omega
theorem rows_ind {P : List Nat → Prop} (h0 : P []) (hs : ∀ lv l, P lv → P (lv ++ [l])) (lv : List Nat) : P lv := by
  suffices ∀ r : List Nat, P r.reverse by simpa using this lv.reverse
  intro r
  induction r with
  | nil => exact h0
  | cons l r ih => rw [List.reverse_cons]; exact hs _ _ ih
theorem rows_bound (lv : List Nat) (h : ∀ l ∈ lv, l ≤ 3) : (rows lv).length ≤ 3 ^ lv.length := by
  induction lv using rows_ind with
  | h0 => simp [rows]
  | hs lv l ih =>
    have h1 := ih fun x hx => h x (by simp [hx])
    have h2 : l ≤ 3 := h l (by simp)
    rw [rows_snoc, step_len, List.length_append]
    simp only [List.length_singleton, Nat.pow_succ]
    exact Nat.mul_le_mul h1 h2
theorem rows_mem_len (lv : List Nat) : ∀ r ∈ rows lv, r.length = lv.length := by
  induction lv using rows_ind with
  | h0 => simp [rows]
  | hs lv l ih =>
    intro r hr
    rw [rows_snoc] at hr
    unfold stepRows at hr
    simp only [List.mem_flatMap, List.mem_map] at hr
    obtain ⟨r0, h0, s, _, rfl⟩ := hr
    simp [ih r0 h0]
theorem WL.pre {lv done rest : List Nat} (h : WL lv) (e : lv = done ++ rest) : (rows done).length ≤ 81 ∧ done.length ≤ 4 ∧ ∀ l ∈ done, l ≤ 3 := by
  have h1 : ∀ l ∈ done, l ≤ 3 := fun l hl => (h.lev l (by rw [e]; simp [hl])).2
  have h2 : done.length ≤ 4 := by
    have := h.hi
    rw [e, List.length_append] at this
    omega
  refine ⟨Nat.le_trans (rows_bound done h1) (Nat.le_trans (Nat.pow_le_pow_right (by decide) h2) (by decide)), h2, h1⟩
theorem ext_row {r : Row} {l : Nat} (hr : r.length ≤ 1000) (hl : l ≤ 1000) {a b c : Option B} : lc (cb rng1 (asCons (rdB 2) asNil)) (tgName 5) yes (op2 addD (rdB 4) (dispT (asCons (rd 5) asNil))) [5] [a, b, some (.d (eN l)), c, some (.d (eR r)), none] = .ok (((List.range l).map fun s => r ++ [s]).map eR) := by
  have hs : smallR (l : Int) = true := smallR_of (by omega) (by omega)
  have := lc_map (fi := cb rng1 (asCons (rdB 2) asNil)) (t := tgName 5) (c := yes) (e := op2 addD (rdB 4) (dispT (asCons (rd 5) asNil))) (vs := [5]) (ρ := [a, b, some (.d (eN l)), c, some (.d (eR r)), none]) (enc := eN) (p := fun _ => true) (g := fun s => eR (r ++ [s])) (List.range l)
    (by simp [eN, hs]; exact upTo_N l) fun s hs => ⟨[a, b, some (.d (eN l)), c, some (.d (eR r)), some (.d (eN s))], by simp [wipeR], by simp, fun _ => by
      have : r.length + 1 ≤ sizeLine := by have := sizeLine_big; omega
      simp [eR, this]⟩
  rw [this, List.filter_eq_self.mpr (fun _ _ => rfl), List.map_map]
  rfl
theorem m_rows_of {lv : List Nat} (h : WL lv) : f_rows_of [eR lv] = .rt (.list ((rows lv).map eR)) := by
  have inner : ∀ (done : List Nat) (l : Nat) (rest : List Nat), lv = done ++ l :: rest → ∀ y, ∃ ρ', forL (tgName 4) g_rows_of_b1 ((rows done).map eR) [some (.d (eR lv)), some (.d (.list ((rows done).map eR))), some (.d (eN l)), some (.own []), y, none] = .nx ρ' ∧
      ∃ y, ρ' = [some (.d (eR lv)), some (.d (.list ((rows done).map eR))), some (.d (eN l)), some (.own ((stepRows (rows done) l).map eR)), y, none] := by
    intro done l rest e y
    obtain ⟨b1, b2, b3⟩ := h.pre e
    have hl : l ≤ 3 := (h.lev l (by rw [e]; simp)).2
    refine forL_inv (fun d ρ => ∃ y, ρ = [some (.d (eR lv)), some (.d (.list ((rows done).map eR))), some (.d (eN l)), some (.own ((stepRows d l).map eR)), y, none]) (rows done) ?_ ⟨y, rfl⟩
    rintro d x r ρ ed ⟨y, rfl⟩
    have hx : x.length ≤ 4 := by rw [rows_mem_len done x (by rw [ed]; simp)]; exact b2
    have hd : d.length ≤ 81 := by rw [ed, List.length_append] at b1; omega
    refine ⟨[some (.d (eR lv)), some (.d (.list ((rows done).map eR))), some (.d (eN l)), some (.own ((stepRows d l).map eR)), some (.d (eR x)), none], [some (.d (eR lv)), some (.d (.list ((rows done).map eR))), some (.d (eN l)), some (.own ((stepRows (d ++ [x]) l).map eR)), some (.d (eR x)), none], by simp, ?_, _, rfl⟩
    unfold g_rows_of_b1
    have e2 := ext_row (r := x) (l := l) (a := some (.d (eR lv))) (b := some (.d (.list ((rows done).map eR)))) (c := some (.own ((stepRows d l).map eR))) (by omega) (by omega)
    rw [extS_own (i := 3) (xs := (stepRows d l).map eR) (ys := ((List.range l).map fun s => x ++ [s]).map eR) rfl (congrArg (Res.map PyData.list) e2) (by
      have := sizeLine_big
      have h1 : d.length * l ≤ 81 * 3 := Nat.mul_le_mul hd hl
      simp [step_len]
      omega)]
    simp [stepRows, List.flatMap_append]
  have outer : ∃ ρ', forL (tgName 2) g_rows_of_b2 (lv.map eN) [some (.d (eR lv)), some (.d (.list [.tuple []])), none, none, none, none] = .nx ρ' ∧ ∃ x y z, ρ' = [some (.d (eR lv)), some (.d (.list ((rows lv).map eR))), x, y, z, none] := by
    refine forL_inv (fun d ρ => ∃ x y z, ρ = [some (.d (eR lv)), some (.d (.list ((rows d).map eR))), x, y, z, none]) lv ?_ ⟨none, none, none, rfl⟩
    rintro d l r ρ e ⟨x, y, z, rfl⟩
    obtain ⟨ρ', h1, w, h2⟩ := inner d l r e z
    subst h2
    refine ⟨_, _, by simp; rfl, ?_, some (.d (eN l)), some (.d (.list ((rows (d ++ [l])).map eR))), w, rfl⟩
    unfold g_rows_of_b2
    simp [h1, rows_snoc]
  obtain ⟨ρ', h1, x, y, z, rfl⟩ := outer
  unfold f_rows_of
  rw [runD_eq]
  show ofS (g_rows_of [some (.d (eR lv)), none, none, none, none, none]) = _
  unfold g_rows_of
  simp
  rw [show eR lv = .tuple (lv.map eN) from rfl] at h1 ⊢
  simp [h1]
end
end DL

/-! The plain part, 3: the book is a book; tests. -/
namespace DL
open PySem PySem.Spec PyProof.Rows L2
section
open DM
theorem m_is_within (x lo hi : Int) : f_is_within [.int x, .int lo, .int hi] = .rt (.bool (decide (lo ≤ x) && decide (x ≤ hi))) := by
  unfold f_is_within
  rw [runD_eq]
  show ofS (g_is_within [some (.d (.int x)), some (.d (.int lo)), some (.d (.int hi))]) = _
  unfold g_is_within
  by_cases h1 : lo ≤ x <;> by_cases h2 : x ≤ hi <;> simp [h1, h2]
def lastOf (m : Meet) : Int := match m.getLast? with
  | none => -1
  | some p => (p.1 : Int)
theorem m_is_meeting {lv : List Nat} {m : Meet} (h : IsMeet lv m) : f_is_meeting [eR lv, eM m, .int 1, .int 3] = .rt (.bool true) := by
  have loop : ∃ ρ', forL (tgName 5) g_is_meeting_b1 (m.map eP) [some (.d (eR lv)), some (.d (eM m)), some (.d (.int 1)), some (.d (.int 3)), some (.d (.int (-1))), none] = .nx ρ' ∧
      ∃ y, ρ' = [some (.d (eR lv)), some (.d (eM m)), some (.d (.int 1)), some (.d (.int 3)), some (.d (.int (lastOf m))), y] := by
    refine forL_inv (fun d ρ => ∃ y, ρ = [some (.d (eR lv)), some (.d (eM m)), some (.d (.int 1)), some (.d (.int 3)), some (.d (.int (lastOf d))), y]) m ?_ ⟨none, rfl⟩
    rintro d p r ρ e ⟨y, rfl⟩
    obtain ⟨l, hl, hp⟩ := h.at_ p (by rw [e]; simp)
    have hlt := (List.getElem?_eq_some_iff.mp hl).1
    have hla : atI (lv.map eN) (p.1 : Int) = some (eN l) := by
      rw [atR hlt]
      congr 2
      exact (List.getElem?_eq_some_iff.mp hl).2
    have hlast : lastOf d + 1 ≤ (p.1 : Int) := by
      unfold lastOf
      cases hg : d.getLast? with
      | none => simp
      | some q =>
        have hq : q ∈ d := List.mem_of_getLast? hg
        have := h.inc
        rw [e, List.pairwise_append] at this
        have := this.2.2 q hq p (by simp)
        simp
        omega
    refine ⟨[some (.d (eR lv)), some (.d (eM m)), some (.d (.int 1)), some (.d (.int 3)), some (.d (.int (lastOf d))), some (.d (eP p))], [some (.d (eR lv)), some (.d (eM m)), some (.d (.int 1)), some (.d (.int 3)), some (.d (.int (lastOf (d ++ [p])))), some (.d (eP p))], by simp, ?_, _, rfl⟩
    have e1 : (p.1 : Int) ≤ (lv.length : Int) - 1 := by omega
    have e2 : (p.2 : Int) ≤ (l : Int) - 1 := by omega
    have e3 : lastOf (d ++ [p]) = (p.1 : Int) := by simp [lastOf]
    unfold g_is_meeting_b1
    simp [eP, eR, eN, m_is_within, hlast, e1]
    rw [hla]
    simp [eN, m_is_within, e2, e3]
  obtain ⟨ρ', h1, y, rfl⟩ := loop
  unfold f_is_meeting
  rw [runD_eq]
  show ofS (g_is_meeting [some (.d (eR lv)), some (.d (eM m)), some (.d (.int 1)), some (.d (.int 3)), none, none]) = _
  unfold g_is_meeting
  have e1 : (1 : Int) ≤ (m.length : Int) := by have := h.lo; omega
  have e2 : (m.length : Int) ≤ 3 := by have := h.hi; omega
  rw [show eM m = .tuple (m.map eP) from rfl] at h1 ⊢
  simp [e1, e2, h1]
theorem mulD_small {i j : Int} (h : smallI j = true) : mulD (.int i) (.int j) = some (.int (i * j)) := by
  have e : mulD (.int i) (.int j) = if (smallI i || smallI j) = true then some (.int (i * j)) else none := rfl
  rw [e, h, Bool.or_true, if_pos rfl]
theorem mulD_small' {i j : Int} (h : smallI i = true) : mulD (.int i) (.int j) = some (.int (i * j)) := by
  have e : mulD (.int i) (.int j) = if (smallI i || smallI j) = true then some (.int (i * j)) else none := rfl
  rw [e, h, Bool.true_or, if_pos rfl]
theorem b1_rows_in {a y : Option B} (i l : Nat) (hl : l ≤ 3) : g_rows_in_b1 [a, some (.d (.int i)), some (.d (eN l))] = .nx [a, some (.d (.int ((i * l : Nat) : Int))), some (.d (eN l))] := by
  have e : mulD (.int (i : Int)) (eN l) = some (.int ((i * l : Nat) : Int)) := (mulD_small (smallI_of (by omega) (by omega))).trans (by rw [Int.natCast_mul])
  unfold g_rows_in_b1
  rw [setS_ap, thenS_ap, op2_ap]
  simp only [rdB_ap, List.getElem?_cons_succ, List.getElem?_cons_zero, Res.bind_ok]
  rw [e]
  rfl
theorem m_rows_in {lv : List Nat} (h : WL lv) : ∃ i : Int, i ≤ 81 ∧ f_rows_in [eR lv] = .rt (.int i) := by
  have loop : ∃ ρ', forL (tgName 2) g_rows_in_b1 (lv.map eN) [some (.d (eR lv)), some (.d (.int 1)), none] = .nx ρ' ∧ ∃ (i : Nat) (y : Option B), ρ' = [some (.d (eR lv)), some (.d (.int i)), y] ∧ i ≤ 3 ^ lv.length := by
    refine forL_inv (fun d ρ => ∃ (i : Nat) (y : Option B), ρ = [some (.d (eR lv)), some (.d (.int i)), y] ∧ i ≤ 3 ^ d.length) lv ?_ ⟨1, none, rfl, by simp⟩
    rintro d l r ρ e ⟨i, y, rfl, hi⟩
    have hl : l ≤ 3 := (h.lev l (by rw [e]; simp)).2
    refine ⟨[some (.d (eR lv)), some (.d (.int i)), some (.d (eN l))], [some (.d (eR lv)), some (.d (.int ((i * l : Nat) : Int))), some (.d (eN l))], by simp, ?_, _, _, rfl, ?_⟩
    · exact b1_rows_in i l hl (y := none)
    · rw [List.length_append]
      simp only [List.length_singleton, Nat.pow_succ]
      exact Nat.mul_le_mul hi hl
  obtain ⟨ρ', h1, i, y, rfl, hi⟩ := loop
  refine ⟨i, ?_, ?_⟩
  · have := Nat.pow_le_pow_right (show 0 < 3 by decide) h.hi
    have e : (3 : Nat) ^ 4 = 81 := by decide
    omega
  · unfold f_rows_in
    rw [runD_eq]
    show ofS (g_rows_in [some (.d (eR lv)), none, none]) = _
    unfold g_rows_in
    rw [show eR lv = .tuple (lv.map eN) from rfl] at h1 ⊢
    simp [h1]
theorem m_is_book {b : Book} (h : WF b) : f_is_book [eB b] = .rt (.bool true) := by
  have e1 : lc (toSeq (rdB 1)) (tgName 3) g_is_book_c1 (rd 3) [3] [some (.d (eB b)), some (.d (eR b.1)), some (.d (.tuple (b.2.map eM))), none, none] = .ok ((b.1.filter fun _ => false).map eN) :=
    lc_map (enc := eN) b.1 (by simp [eR]) fun l hl => ⟨[some (.d (eB b)), some (.d (eR b.1)), some (.d (.tuple (b.2.map eM))), some (.d (eN l)), none], by simp [wipeR], by
      have h1 : (1 : Int) ≤ (l : Int) := by have := (h.wl.lev l hl).1; omega
      have h2 : (l : Int) ≤ 4 := by have := (h.wl.lev l hl).2; omega
      simp [g_is_book_c1, eN, m_is_within, h1, h2], fun z => by cases z⟩
  have e2 : lc (toSeq (rdB 2)) (tgName 4) g_is_book_c2 (rd 4) [4] [some (.d (eB b)), some (.d (eR b.1)), some (.d (.tuple (b.2.map eM))), none, none] = .ok ((b.2.filter fun _ => false).map eM) :=
    lc_map (enc := eM) b.2 (by simp) fun m hm => ⟨[some (.d (eB b)), some (.d (eR b.1)), some (.d (.tuple (b.2.map eM))), none, some (.d (eM m))], by simp [wipeR], by
      simp [g_is_book_c2, m_is_meeting (h.ban m hm)], fun z => by cases z⟩
  obtain ⟨i, hi, e3⟩ := m_rows_in h.wl
  unfold f_is_book
  rw [runD_eq]
  show ofS (g_is_book [some (.d (eB b)), none, none, none, none]) = _
  unfold g_is_book
  have f1 : (1 : Int) ≤ (b.1.length : Int) := by have := h.wl.lo; omega
  have f2 : (b.1.length : Int) ≤ 6 := by have := h.wl.hi; omega
  have f3 : ¬ (400 < i) := by omega
  have f4 : ¬ (12 < (b.2.length : Int)) := by have := h.bans; omega
  have fe : ∀ {α : Type} (xs : List α), xs.filter (fun _ => false) = [] := fun xs => by simp
  rw [fe] at e1 e2
  rw [show eB b = .tuple [eR b.1, .tuple (b.2.map eM)] from rfl] at e1 e2 ⊢
  rw [show eR b.1 = .tuple (b.1.map eN) from rfl] at e1 e2 e3 ⊢
  simp [f1, f2, e1, e2, e3, f3, f4]
theorem m_checked {b : Book} (h : WF b) : f_checked [eB b] = .rt (eB b) := by
  unfold f_checked
  rw [runD_eq]
  show ofS (g_checked [some (.d (eB b))]) = _
  unfold g_checked
  simp [m_is_book h]
theorem m_look_strength {b : Book} (h : WF b) {s : Nat} (h1 : 1 ≤ s) (h2 : s ≤ 3) (h3 : s ≤ b.1.length) : f_look_strength [eB b, .int s] = .rt .none := by
  unfold f_look_strength
  rw [runD_eq]
  show ofS (g_look_strength [some (.d (eB b)), some (.d (.int s))]) = _
  unfold g_look_strength
  have e1 : (1 : Int) ≤ (s : Int) := by omega
  have e2 : (s : Int) ≤ (if (b.1.length : Int) < 3 then (b.1.length : Int) else 3) := by split <;> omega
  simp [m_checked h]
  simp [eB, eR, m_is_within, e1, e2]
theorem bans_lt {b : Book} (h : WF b) {r : Row} (hr : r ∈ rows b.1) : ∀ m ∈ b.2, ∀ p ∈ m, p.1 < r.length := fun m hm p hp => by
  rw [rows_mem_len b.1 r hr]
  exact (h.ban m hm).lt p hp
theorem m_tests_of {b : Book} (h : WF b) : f_tests_of [eB b] = .ro ((tests b).map eR) := by
  have e : lc (toSeq (callR 1 f_rows_of (asCons (op2 ixD (rdB 0) (kst (.int 0))) asNil))) (tgName 1) g_tests_of_c1 (rd 1) [1] [some (.d (eB b)), none] = .ok (((rows b.1).filter fun r => allowed b r).map eR) :=
    lc_map (enc := eR) (rows b.1) (by simp [eB, m_rows_of h.wl]) fun r hr => ⟨[some (.d (eB b)), some (.d (eR r))], by simp [wipeR], by simp [g_tests_of_c1, m_is_allowed (bans_lt h hr)], fun _ => by simp⟩
  unfold f_tests_of
  rw [runD_eq]
  show ofS (g_tests_of [some (.d (eB b)), none]) = _
  unfold g_tests_of
  rw [retO_ap, thenS_ap, e]
  rfl
theorem m_all_tests {b : Book} (h : WF b) : f_all_tests [eB b] = .ro ((tests b).map eR) := by
  unfold f_all_tests
  rw [runD_eq]
  show ofS (g_all_tests [some (.d (eB b))]) = _
  unfold g_all_tests
  simp [m_checked h, m_tests_of h]
end
end DL

/-! The plain part, 4: the law's own rows, tests, book, strength. -/
namespace DL
open PySem PySem.Spec PyProof.Rows L2
section
open DM
theorem m_l_rows {lv : List Nat} (h : WL lv) : f_l_rows [eR lv] = .rt (.list ((rows lv).map eR)) := by
  have inner : ∀ (done : List Nat) (l : Nat) (rest : List Nat), lv = done ++ l :: rest → ∀ y, ∃ ρ', forL (tgName 4) g_l_rows_b1 ((rows done).map eR) [some (.d (eR lv)), some (.d (.list ((rows done).map eR))), some (.d (eN l)), some (.d (.list [])), y, none] = .nx ρ' ∧
      ∃ y, ρ' = [some (.d (eR lv)), some (.d (.list ((rows done).map eR))), some (.d (eN l)), some (.d (.list ((stepRows (rows done) l).map eR))), y, none] := by
    intro done l rest e y
    obtain ⟨b1, b2, b3⟩ := h.pre e
    have hl : l ≤ 3 := (h.lev l (by rw [e]; simp)).2
    refine forL_inv (fun d ρ => ∃ y, ρ = [some (.d (eR lv)), some (.d (.list ((rows done).map eR))), some (.d (eN l)), some (.d (.list ((stepRows d l).map eR))), y, none]) (rows done) ?_ ⟨y, rfl⟩
    rintro d x r ρ ed ⟨y, rfl⟩
    have hx : x.length ≤ 4 := by rw [rows_mem_len done x (by rw [ed]; simp)]; exact b2
    have hd : d.length ≤ 81 := by rw [ed, List.length_append] at b1; omega
    refine ⟨[some (.d (eR lv)), some (.d (.list ((rows done).map eR))), some (.d (eN l)), some (.d (.list ((stepRows d l).map eR))), some (.d (eR x)), none], [some (.d (eR lv)), some (.d (.list ((rows done).map eR))), some (.d (eN l)), some (.d (.list ((stepRows (d ++ [x]) l).map eR))), some (.d (eR x)), none], by simp, ?_, _, rfl⟩
    have e2 := ext_row (r := x) (l := l) (a := some (.d (eR lv))) (b := some (.d (.list ((rows done).map eR)))) (c := some (.d (.list ((stepRows d l).map eR)))) (by omega) (by omega)
    have e3 : frz (lc (cb rng1 (asCons (rdB 2) asNil)) (tgName 5) yes g_l_rows_e1 [5]) [some (.d (eR lv)), some (.d (.list ((rows done).map eR))), some (.d (eN l)), some (.d (.list ((stepRows d l).map eR))), some (.d (eR x)), none] = .ok (.list (((List.range l).map fun s => x ++ [s]).map eR)) := congrArg (Res.map PyData.list) e2
    have hz : (stepRows d l).length + l ≤ sizeLine := by
      have := sizeLine_big
      have h1 : d.length * l ≤ 81 * 3 := Nat.mul_le_mul hd hl
      rw [step_len]
      omega
    unfold g_l_rows_b1
    rw [setS_ap, thenS_ap, op2_ap, e3]
    simp [hz, stepRows, List.flatMap_append]
    simp [stepRows] at hz
    simp [hz]
  have outer : ∃ ρ', forL (tgName 2) g_l_rows_b2 (lv.map eN) [some (.d (eR lv)), some (.d (.list [.tuple []])), none, none, none, none] = .nx ρ' ∧ ∃ x y z, ρ' = [some (.d (eR lv)), some (.d (.list ((rows lv).map eR))), x, y, z, none] := by
    refine forL_inv (fun d ρ => ∃ x y z, ρ = [some (.d (eR lv)), some (.d (.list ((rows d).map eR))), x, y, z, none]) lv ?_ ⟨none, none, none, rfl⟩
    rintro d l r ρ e ⟨x, y, z, rfl⟩
    obtain ⟨ρ', h1, w, h2⟩ := inner d l r e z
    subst h2
    refine ⟨_, _, by simp; rfl, ?_, some (.d (eN l)), some (.d (.list ((rows (d ++ [l])).map eR))), w, rfl⟩
    unfold g_l_rows_b2
    simp [h1, rows_snoc]
  obtain ⟨ρ', h1, x, y, z, rfl⟩ := outer
  unfold f_l_rows
  rw [runD_eq]
  show ofS (g_l_rows [some (.d (eR lv)), none, none, none, none, none]) = _
  unfold g_l_rows
  simp
  rw [show eR lv = .tuple (lv.map eN) from rfl] at h1 ⊢
  simp [h1]
theorem rows_le {b : Book} (h : WF b) : (rows b.1).length ≤ 81 := (h.wl.pre (done := b.1) (rest := []) (by simp)).1
theorem m_l_tests {b : Book} (h : WF b) : f_l_tests [eB b] = .ro ((tests b).map eR) := by
  have loop : ∃ ρ', forL (tgName 2) g_l_tests_b1 ((rows b.1).map eR) [some (.d (eB b)), some (.own []), none, none] = .nx ρ' ∧ ∃ y, ρ' = [some (.d (eB b)), some (.own (((rows b.1).filter (allowed b)).map eR)), y, none] := by
    refine forL_inv (fun d ρ => ∃ y, ρ = [some (.d (eB b)), some (.own ((d.filter (allowed b)).map eR)), y, none]) (rows b.1) ?_ ⟨none, rfl⟩
    rintro d r rest ρ e ⟨y, rfl⟩
    have hr : r ∈ rows b.1 := by rw [e]; simp
    refine ⟨[some (.d (eB b)), some (.own ((d.filter (allowed b)).map eR)), some (.d (eR r)), none], [some (.d (eB b)), some (.own (((d ++ [r]).filter (allowed b)).map eR)), some (.d (eR r)), none], by simp, ?_, _, rfl⟩
    have e1 : lc (toSeq (op2 ixD (rdB 0) (kst (.int 1)))) (tgName 3) g_l_tests_c1 (rd 3) [3] [some (.d (eB b)), some (.own ((d.filter (allowed b)).map eR)), some (.d (eR r)), none] = .ok ((b.2.filter fun m => meets r m).map eM) :=
      lc_map (enc := eM) b.2 (by simp [eB]) fun m hm => ⟨[some (.d (eB b)), some (.own ((d.filter (allowed b)).map eR)), some (.d (eR r)), some (.d (eM m))], by simp [wipeR], by simp [g_l_tests_c1, m_l_meets (bans_lt h hr m hm)], fun _ => by simp⟩
    have q := eqD_nm (P := allowed b r = true) (nmMs (b.2.filter fun m => meets r m)) nmNil (by decide) (by decide) (by simp [allowed])
    have hz : (d.filter (allowed b)).length < sizeLine := by
      have h1 := rows_le h
      have h2 := List.length_filter_le (allowed b) d
      have := sizeLine_big
      rw [e, List.length_append] at h1
      omega
    unfold g_l_tests_b1
    cases ha : allowed b r <;> simp [e1, q, ha, hz]
  obtain ⟨ρ', h1, y, rfl⟩ := loop
  unfold f_l_tests
  rw [runD_eq]
  show ofS (g_l_tests [some (.d (eB b)), none, none, none]) = _
  unfold g_l_tests
  have e0 : callR 1 f_l_rows (asCons (op2 ixD (rdB 0) (kst (.int 0))) asNil) [some (.d (eB b)), some (.own []), none, none] = .ok (.list ((rows b.1).map eR)) := by
    simp [eB, m_l_rows h.wl]
  simp only [seqS_ap, setO_ap, thenS_ap, disp_ap, asNil_ap, Res.bind_ok, List.length_nil, Nat.zero_le, if_true, List.set_cons_succ, List.set_cons_zero, forS_ap, toSeq_ap, e0, seqOf_list, Res.of_some, h1]
  simp [tests]
/-! ### the script -/
def eS (ns : List Int) : D := .list (ns.map PyData.int)
def cellOf (ns : List Int) (k : Nat) : Int := ns.getD k 0
theorem m_l_cell (ns : List Int) (k : Nat) : f_l_cell [eS ns, .int (k : Int)] = .rt (.int (cellOf ns k)) := by
  unfold f_l_cell
  rw [runD_eq]
  show ofS (g_l_cell [some (.d (eS ns)), some (.d (.int (k : Int)))]) = _
  unfold g_l_cell
  by_cases h : k < ns.length
  · have e : atI (ns.map PyData.int) (k : Int) = some (.int (cellOf ns k)) := atI_nat (by
      rw [List.getElem?_map, List.getElem?_eq_getElem h]
      simp [cellOf, List.getD, h])
    have h' : (k : Int) < (ns.length : Int) := by omega
    simp [eS, e, h']
  · have e : cellOf ns k = 0 := by simp [cellOf, List.getD, List.getElem?_eq_none (Nat.le_of_not_lt h)]
    have h' : ¬ (k : Int) < (ns.length : Int) := by omega
    simp [eS, e, h']
def mixI (c p m : Int) : Int := c * 48271 % p % m
theorem mix_lo (c p : Int) {m : Int} (h : 0 < m) : 0 ≤ mixI c p m := Int.emod_nonneg _ (by omega)
theorem mix_hi (c p : Int) {m : Int} (h : 0 < m) : mixI c p m < m := Int.emod_lt_of_pos _ h
theorem m_l_mix {c p m : Int} (hp : 0 < p) (hm : 0 < m) : f_l_mix [.int c, .int p, .int m] = .rt (.int (mixI c p m)) := by
  unfold f_l_mix
  rw [runD_eq]
  show ofS (g_l_mix [some (.d (.int c)), some (.d (.int p)), some (.d (.int m))]) = _
  unfold g_l_mix
  have e : mulD (.int c) (.int 48271) = some (.int (c * 48271)) := mulD_small (smallI_of (by omega) (by omega))
  simp only [retS_ap, thenS_ap, op2_ap, rdB_ap, kst_ap, List.getElem?_cons_succ, List.getElem?_cons_zero, Res.bind_ok, e, Res.of_some]
  simp [hp, hm, mixI]
/-- a number drawn, below m -/
theorem mix_nat (c p : Int) {m : Nat} (h : 0 < m) : ∃ k : Nat, mixI c p m = (k : Int) ∧ k < m := by
  have h1 := mix_lo c p (m := (m : Int)) (by omega)
  have h2 := mix_hi c p (m := (m : Int)) (by omega)
  exact ⟨(mixI c p m).toNat, by omega, by omega⟩
theorem ban_meet {lv : List Nat} {things : List Nat} (f : Nat → Nat) (h1 : things ≠ []) (h3 : things.length ≤ 3) (hi : things.Pairwise (· < ·)) (hf : ∀ th ∈ things, ∃ l, lv[th]? = some l ∧ f th < l) : IsMeet lv (things.map fun th => (th, f th)) := by
  refine ⟨?_, by rw [List.length_map]; exact h3, ?_, fun p hp => ?_⟩
  · rw [List.length_map]
    exact List.length_pos_iff.mpr h1
  · rw [List.pairwise_map]
    exact hi
  · obtain ⟨th, ht, rfl⟩ := List.mem_map.mp hp
    exact hf th ht
theorem cut3 (xs : List D) : cutG xs none (some 3) = xs.take 3 := by
  unfold cutG
  rw [show HT.sIx xs.length 0 none = 0 from rfl, show HT.sIx xs.length xs.length (some (3 : Int)) = min 3 xs.length from HT.sIx_nat xs.length xs.length 3, List.drop_zero, Nat.sub_zero]
  by_cases h : 3 ≤ xs.length
  · rw [Nat.min_eq_left h]
  · rw [Nat.min_eq_right (by omega), List.take_of_length_le (Nat.le_refl _), List.take_of_length_le (by omega)]
end
end DL

/-! The plain part, 5: the law's book, its strength. -/
namespace DL
open PySem PySem.Spec PyProof.Rows L2
section
open DM
theorem upTo_N' (n : Nat) : upTo 0 ((n : Int)).toNat = (List.range n).map eN := by rw [Int.toNat_natCast, upTo_N]
theorem rng1_N {n : Nat} (h : n ≤ 1000) : rng1 [.int (n : Int)] = some ((List.range n).map eN) := by
  rw [rng1_int, if_pos (smallR_of (by omega) (by omega)), upTo_N']
theorem b1_l_book {ns : List Int} {at_ k : Nat} {c m y z8 z9 z10 : Option B} {lv : List Nat} (hn : ns.length ≤ 63) (hk : k ≤ 3) (hl : lv.length ≤ 1000) : ∃ (l : Nat) (t : D), 1 ≤ l ∧ l ≤ 3 ∧
    g_l_book_b1 [some (.d (eS ns)), some (.d (.int (at_ : Int))), c, m, some (.own (lv.map eN)), some (.d (eN k)), y, none, z8, z9, z10] = .nx [some (.d (eS ns)), some (.d (.int (at_ : Int))), c, m, some (.own ((lv ++ [l]).map eN)), some (.d (eN k)), some (.d t), none, z8, z9, z10] := by
  have hz : lv.length < sizeLine := by have := sizeLine_big; omega
  have e1 : mulD (.int 31) (.int (k : Int)) = some (.int (31 * (k : Int))) := mulD_small' (smallI_of (by omega) (by omega))
  have e2 : mulD (.int (31 * (k : Int))) (.int (k : Int)) = some (.int (31 * (k : Int) * (k : Int))) := mulD_small (smallI_of (by omega) (by omega))
  have e3 := m_l_cell ns (at_ + 1)
  rw [Int.natCast_add] at e3
  have e4 : ¬ (63 < (ns.length : Int)) := by omega
  have core : ∀ most : Nat, 0 < most → most ≤ 3 → ∃ l : Nat, 1 ≤ l ∧ l ≤ 3 ∧ appS 4 (op2 addD (kst (.int 1)) (callR 3 f_l_mix (asCons (op2 addD (op2 addD (callR 2 f_l_cell (asCons (rd 0) (asCons (op2 addD (rdB 1) (kst (.int 1))) asNil))) (op2 mulD (op2 mulD (kst (.int 31)) (rdB 5)) (rdB 5))) (rdB 5)) (asCons (kst (.int 9967)) (asCons (rd 6) asNil)))))
      [some (.d (eS ns)), some (.d (.int (at_ : Int))), c, m, some (.own (lv.map eN)), some (.d (.int (k : Int))), some (.d (.int (most : Int))), none, z8, z9, z10] = .nx [some (.d (eS ns)), some (.d (.int (at_ : Int))), c, m, some (.own ((lv ++ [l]).map eN)), some (.d (.int (k : Int))), some (.d (.int (most : Int))), none, z8, z9, z10] := by
    intro most h0 h3
    obtain ⟨j, ej, hj⟩ := mix_nat (cellOf ns (at_ + 1) + 31 * (k : Int) * (k : Int) + (k : Int)) 9967 h0
    refine ⟨1 + j, by omega, by omega, ?_⟩
    have e5 := m_l_mix (c := cellOf ns (at_ + 1) + 31 * (k : Int) * (k : Int) + (k : Int)) (p := 9967) (m := (most : Int)) (by decide) (by omega)
    rw [ej] at e5
    have e6 : ((1 + j : Nat) : Int) = 1 + (j : Int) := by omega
    rw [appS_own (xs := lv.map eN) _ rfl]
    simp only [thenS_ap, op2_ap, callR_ap, asCons_ap, asNil_ap, rd_ap, rdB_ap, kst_ap, List.getElem?_cons_succ, List.getElem?_cons_zero, Res.bind_ok, Res.map_ok, addD_int, Res.of_some, List.length_cons, List.length_nil, Nat.zero_add, if_true, e1, e2]
    rw [show ((1 : Nat) : Int) = 1 from rfl] at e3
    simp only [Nat.reduceAdd, if_true, e3, res_rt, Res.bind_ok, addD_int, Res.of_some, Res.map_ok, List.length_cons, List.length_nil, e5]
    simp [hz, eN, e6]
  unfold g_l_book_b1
  rw [show eN k = .int (k : Int) from rfl]
  by_cases h : (k : Int) < 2
  · obtain ⟨l, h1, h2, h3⟩ := core 3 (by decide) (by decide)
    refine ⟨l, .int 3, h1, h2, ?_⟩
    rw [show ((3 : Nat) : Int) = 3 from rfl] at h3
    simp only [seqS_ap, setS_ap, thenS_ap, kst_ap, ifS_ap, orT_ap, toB_ap, op2_ap, rdB_ap, List.getElem?_cons_succ, List.getElem?_cons_zero, List.set_cons_succ, List.set_cons_zero, Res.bind_ok, cmpI_int, decide_eq_true h, Res.of_some, boolD_bool, if_true]
    exact h3
  · obtain ⟨l, h1, h2, h3⟩ := core 2 (by decide) (by decide)
    refine ⟨l, .int 2, h1, h2, ?_⟩
    rw [show ((2 : Nat) : Int) = 2 from rfl] at h3
    have e5 : lenD [eS ns] = some (.int (ns.length : Int)) := by simp [eS]
    simp only [seqS_ap, setS_ap, thenS_ap, kst_ap, ifS_ap, orT_ap, toB_ap, op2_ap, rdB_ap, cb_ap, asCons_ap, asNil_ap, Res.map_ok, e5, List.getElem?_cons_succ, List.getElem?_cons_zero, List.set_cons_succ, List.set_cons_zero, Res.bind_ok, cmpI_int, decide_eq_false h, decide_eq_false e4, Res.of_some, boolD_bool, Bool.false_eq_true, if_false]
    exact h3
/-- the things of a ban -/
theorem b2_l_book {ns : List Int} {at_ k many : Nat} {c y6 y8 y10 : Option B} {lv : List Nat} {bans : List Meet} (hk : k ≤ 3) (hm : many = lv.length) (hw : WL lv) (hb : bans.length ≤ 1000) : ∃ (m : Meet) (x8 x10 : D), IsMeet lv m ∧
    g_l_book_b2 [some (.d (eS ns)), some (.d (.int (at_ : Int))), c, some (.d (eN many)), some (.own (lv.map eN)), some (.d (eN k)), y6, some (.own (bans.map eM)), y8, none, y10] =
      .nx [some (.d (eS ns)), some (.d (.int (at_ : Int))), c, some (.d (eN many)), some (.own (lv.map eN)), some (.d (eN k)), y6, some (.own ((bans ++ [m]).map eM)), some (.d x8), none, some (.d x10)] := by
  have hm4 : many ≤ 4 := by rw [hm]; exact hw.hi
  have hm1 : 1 ≤ many := by rw [hm]; exact hw.lo
  have hz : bans.length < sizeLine := by have := sizeLine_big; omega
  have e1 : mulD (.int 53) (.int (k : Int)) = some (.int (53 * (k : Int))) := mulD_small' (smallI_of (by omega) (by omega))
  have e2 : mulD (.int (53 * (k : Int))) (.int (k : Int)) = some (.int (53 * (k : Int) * (k : Int))) := mulD_small (smallI_of (by omega) (by omega))
  have e3 : mulD (.int 7) (.int (k : Int)) = some (.int (7 * (k : Int))) := mulD_small' (smallI_of (by omega) (by omega))
  have e4 := m_l_cell ns (at_ + 2)
  rw [Int.natCast_add, show ((2 : Nat) : Int) = 2 from rfl] at e4
  generalize hseed : cellOf ns (at_ + 2) + 53 * (k : Int) * (k : Int) + 7 * (k : Int) = seed
  -- seed
  have s8 : ∀ {z9 z10 : Option B}, setS 8 (op2 addD (op2 addD (callR 2 f_l_cell (asCons (rd 0) (asCons (op2 addD (rdB 1) (kst (.int 2))) asNil))) (op2 mulD (op2 mulD (kst (.int 53)) (rdB 5)) (rdB 5))) (op2 mulD (kst (.int 7)) (rdB 5)))
      [some (.d (eS ns)), some (.d (.int (at_ : Int))), c, some (.d (eN many)), some (.own (lv.map eN)), some (.d (eN k)), y6, some (.own (bans.map eM)), y8, z9, z10] = .nx [some (.d (eS ns)), some (.d (.int (at_ : Int))), c, some (.d (eN many)), some (.own (lv.map eN)), some (.d (eN k)), y6, some (.own (bans.map eM)), some (.d (.int seed)), z9, z10] := by
    intro z9 z10
    rw [show eN k = .int (k : Int) from rfl]
    simp only [setS_ap, thenS_ap, op2_ap, callR_ap, asCons_ap, asNil_ap, rd_ap, rdB_ap, kst_ap, List.getElem?_cons_succ, List.getElem?_cons_zero, Res.bind_ok, Res.map_ok, addD_int, Res.of_some, List.length_cons, List.length_nil, Nat.zero_add, Nat.reduceAdd, if_true, e1, e2, e3, e4, res_rt, hseed, List.set_cons_succ, List.set_cons_zero]
  -- the drawn things
  have dr : ∀ (x : Nat) {z10 : Option B}, x ≤ 4 → g_l_book_c1 [some (.d (eS ns)), some (.d (.int (at_ : Int))), c, some (.d (eN many)), some (.own (lv.map eN)), some (.d (eN k)), y6, some (.own (bans.map eM)), some (.d (.int seed)), some (.d (eN x)), z10] = .ok (decide (mixI (seed + 17 * (x : Int)) 9941 2 = 1)) := by
    intro x z10 hx
    have e5 : mulD (.int 17) (.int (x : Int)) = some (.int (17 * (x : Int))) := mulD_small' (smallI_of (by omega) (by omega))
    have e6 := m_l_mix (c := seed + 17 * (x : Int)) (p := 9941) (m := 2) (by decide) (by decide)
    unfold g_l_book_c1
    rw [show eN x = .int (x : Int) from rfl]
    simp only [toB_ap, op2_ap, callR_ap, asCons_ap, asNil_ap, rdB_ap, kst_ap, List.getElem?_cons_succ, List.getElem?_cons_zero, Res.bind_ok, Res.map_ok, addD_int, Res.of_some, List.length_cons, List.length_nil, Nat.zero_add, Nat.reduceAdd, if_true, e5, e6, res_rt, eqD_int, boolD_bool]
  have d10 : sl3 cutD (frz (lc (cb rng1 (asCons (rdB 3) asNil)) (tgName 9) g_l_book_c1 (rd 9) [9])) ptN (ptS (kst (.int 3))) [some (.d (eS ns)), some (.d (.int (at_ : Int))), c, some (.d (eN many)), some (.own (lv.map eN)), some (.d (eN k)), y6, some (.own (bans.map eM)), some (.d (.int seed)), none, y10] =
      .ok (.list ((((List.range many).filter fun x : Nat => decide (mixI (seed + 17 * (x : Int)) 9941 2 = 1)).take 3).map eN)) := by
    have := lc_map (fi := cb rng1 (asCons (rdB 3) asNil)) (t := tgName 9) (c := g_l_book_c1) (e := rd 9) (vs := [9]) (ρ := [some (.d (eS ns)), some (.d (.int (at_ : Int))), c, some (.d (eN many)), some (.own (lv.map eN)), some (.d (eN k)), y6, some (.own (bans.map eM)), some (.d (.int seed)), none, y10]) (enc := eN)
      (p := fun x : Nat => decide (mixI (seed + 17 * (x : Int)) 9941 2 = 1)) (g := eN) (List.range many) (by
        simp only [cb_ap, asCons_ap, asNil_ap, rdB_ap, List.getElem?_cons_succ, List.getElem?_cons_zero, Res.bind_ok, Res.map_ok]
        rw [show eN many = .int (many : Int) from rfl, rng1_N (by omega)]
        rfl) fun x hx => ⟨_, rfl, dr x (by have := List.mem_range.mp hx; omega), fun _ => rfl⟩
    rw [sl3_ap, frz_ap, this]
    show Res.of (cutD (.list _) none (some 3)) = _
    show Res.ok (PyData.list (cutG _ none (some 3))) = _
    rw [cut3, List.map_take]
  obtain ⟨things, ht, hne, h3, hinc, hlt⟩ : ∃ things : List Nat, ifS (toB (op2 eqD (rdB 10) (frz (disp asNil)))) (setS 10 (frz (disp (asCons (callR 3 f_l_mix (asCons (rd 8) (asCons (kst (.int 9931)) (asCons (rd 3) asNil)))) asNil)))) SO.nx
      [some (.d (eS ns)), some (.d (.int (at_ : Int))), c, some (.d (eN many)), some (.own (lv.map eN)), some (.d (eN k)), y6, some (.own (bans.map eM)), some (.d (.int seed)), none, some (.d (.list ((((List.range many).filter fun x : Nat => decide (mixI (seed + 17 * (x : Int)) 9941 2 = 1)).take 3).map eN)))] =
      .nx [some (.d (eS ns)), some (.d (.int (at_ : Int))), c, some (.d (eN many)), some (.own (lv.map eN)), some (.d (eN k)), y6, some (.own (bans.map eM)), some (.d (.int seed)), none, some (.d (.list (things.map eN)))] ∧ things ≠ [] ∧ things.length ≤ 3 ∧ things.Pairwise (· < ·) ∧ ∀ th ∈ things, th < many := by
    generalize hT : ((List.range many).filter fun x : Nat => decide (mixI (seed + 17 * (x : Int)) 9941 2 = 1)).take 3 = T
    have q := eqD_nm (P := T = []) (a := .list (T.map eN)) (b := .list []) (m := 1) (n := 1) (.list fun x hx => by obtain ⟨j, _, rfl⟩ := List.mem_map.mp hx; exact nmN j) nmNil (by decide) (by decide) (by simp)
    by_cases hT0 : T = []
    · obtain ⟨j, ej, hj⟩ := mix_nat seed 9931 (m := many) (by omega)
      have e6 := m_l_mix (c := seed) (p := 9931) (m := (many : Int)) (by decide) (by omega)
      rw [ej] at e6
      refine ⟨[j], ?_, by simp, by simp, by simp, by simpa using hj⟩
      rw [decide_eq_true hT0] at q
      rw [show eN many = .int (many : Int) from rfl]
      simp only [ifS_ap, thenS_ap, toB_ap, op2_ap, frz_ap, disp_ap, asNil_ap, Res.bind_ok, Res.map_ok, List.length_nil, Nat.zero_le, if_true, rdB_ap, List.getElem?_cons_succ, List.getElem?_cons_zero, q, Res.of_some, boolD_bool, setS_ap, asCons_ap, callR_ap, rd_ap, kst_ap, List.length_cons, Nat.zero_add, Nat.reduceAdd, e6, res_rt]
      simp [eN]
    · refine ⟨T, ?_, hT0, ?_, ?_, ?_⟩
      · rw [decide_eq_false hT0] at q
        simp only [ifS_ap, thenS_ap, toB_ap, op2_ap, frz_ap, disp_ap, asNil_ap, Res.bind_ok, Res.map_ok, List.length_nil, Nat.zero_le, if_true, rdB_ap, List.getElem?_cons_succ, List.getElem?_cons_zero, q, Res.of_some, boolD_bool]
        simp
      · rw [← hT]; exact List.length_take_le 3 _
      · rw [← hT]; exact (List.pairwise_lt_range (n := many)).sublist (List.Sublist.trans (List.take_sublist _ _) List.filter_sublist)
      · intro th hth
        rw [← hT] at hth
        exact List.mem_range.mp (List.mem_filter.mp (List.mem_of_mem_take hth)).1
  -- the ban
  have hset : ∀ th ∈ things, ∃ l s : Nat, lv[th]? = some l ∧ s < l ∧ mixI (seed + 5 * (th : Int)) 9929 (l : Int) = (s : Int) := by
    intro th hth
    have hlt' : th < lv.length := by rw [← hm]; exact hlt th hth
    have h1 := (hw.lev lv[th] (List.getElem_mem hlt')).1
    obtain ⟨s, es, hs⟩ := mix_nat (seed + 5 * (th : Int)) 9929 (m := lv[th]) (by omega)
    exact ⟨lv[th], s, List.getElem?_eq_getElem hlt', hs, es⟩
  let f : Nat → Nat := fun th => (mixI (seed + 5 * (th : Int)) 9929 ((lv.getD th 1 : Nat) : Int)).toNat
  have hf : ∀ th ∈ things, ∃ l, lv[th]? = some l ∧ f th < l ∧ mixI (seed + 5 * (th : Int)) 9929 (l : Int) = (f th : Int) := by
    intro th hth
    obtain ⟨l, s, h1, h2, h3⟩ := hset th hth
    have : lv.getD th 1 = l := by simp [List.getD, h1]
    have e : f th = s := by show (mixI _ _ ((lv.getD th 1 : Nat) : Int)).toNat = s; rw [this, h3]; simp
    exact ⟨l, h1, by rw [e]; exact h2, by rw [e]; exact h3⟩
  refine ⟨things.map fun th => (th, f th), .int seed, .list (things.map eN), ban_meet f hne h3 hinc fun th hth => let ⟨l, a, b, _⟩ := hf th hth; ⟨l, a, b⟩, ?_⟩
  have elem : ∀ th ∈ things, g_l_book_e1 [some (.d (eS ns)), some (.d (.int (at_ : Int))), c, some (.d (eN many)), some (.own (lv.map eN)), some (.d (eN k)), y6, some (.own (bans.map eM)), some (.d (.int seed)), some (.d (eN th)), some (.d (.list (things.map eN)))] = .ok (eP (th, f th)) := by
    intro th hth
    obtain ⟨l, h1, h2, h3⟩ := hf th hth
    have hthm := hlt th hth
    have e5 : mulD (.int 5) (.int (th : Int)) = some (.int (5 * (th : Int))) := mulD_small' (smallI_of (by omega) (by omega))
    have e6 := m_l_mix (c := seed + 5 * (th : Int)) (p := 9929) (m := (l : Int)) (by decide) (by omega)
    rw [h3] at e6
    have e7 : atI (lv.map eN) (th : Int) = some (.int (l : Int)) := atI_nat (by rw [List.getElem?_map, h1]; rfl)
    unfold g_l_book_e1
    rw [show eN th = .int (th : Int) from rfl]
    simp only [dispT_ap, disp_ap, asCons_ap, asNil_ap, callR_ap, op2_ap, rd_ap, rdB_ap, kst_ap, List.getElem?_cons_succ, List.getElem?_cons_zero, Res.bind_ok, Res.map_ok, addD_int, Res.of_some, e5, ixD_list, e7, List.length_cons, List.length_nil, Nat.zero_add, Nat.reduceAdd, if_true, e6, res_rt]
    simp [eP, eN]
  have b7 := lc_map (fi := toSeq (rdB 10)) (t := tgName 9) (c := yes) (e := g_l_book_e1) (vs := [9]) (ρ := [some (.d (eS ns)), some (.d (.int (at_ : Int))), c, some (.d (eN many)), some (.own (lv.map eN)), some (.d (eN k)), y6, some (.own (bans.map eM)), some (.d (.int seed)), none, some (.d (.list (things.map eN)))]) (enc := eN)
    (p := fun _ : Nat => true) (g := fun th => eP (th, f th)) things rfl fun th hth => ⟨_, rfl, rfl, fun _ => elem th hth⟩
  rw [List.filter_eq_self.mpr (fun _ _ => rfl)] at b7
  unfold g_l_book_b2
  rw [seqS_ap, s8]
  show seqS _ _ _ = _
  rw [seqS_ap, setS_ap, thenS_ap, d10]
  show seqS _ _ _ = _
  simp only [List.set_cons_succ, List.set_cons_zero]
  rw [seqS_ap, ht]
  show appS 7 _ _ = _
  rw [appS_own (xs := bans.map eM) _ rfl]
  simp only [thenS_ap, cb_ap, asCons_ap, asNil_ap, frz_ap, b7, Res.map_ok, Res.bind_ok, toTupD_list, Res.of_some]
  rw [if_pos (by rw [List.length_map]; exact hz)]
  simp [eM]
end
end DL

/-! The plain part, 6: the law's book, its strength. -/
namespace DL
open PySem PySem.Spec PyProof.Rows L2
section
open DM
theorem m_l_book {ns : List Int} (at_ : Nat) (hn : ns.length ≤ 63) : ∃ b : Book, WF b ∧ f_l_book [eS ns, .int (at_ : Int)] = .rt (eB b) := by
  generalize hc : cellOf ns at_ = cell
  obtain ⟨j, ej, hj⟩ := mix_nat cell 9973 (m := 4) (by decide)
  rw [show ((4 : Nat) : Int) = 4 from rfl] at ej
  obtain ⟨nb, enb, hnb⟩ := mix_nat cell 9949 (m := 4) (by decide)
  rw [show ((4 : Nat) : Int) = 4 from rfl] at enb
  have x1 := m_l_mix (c := cell) (p := 9973) (m := 4) (by decide) (by decide)
  rw [ej] at x1
  have x2 := m_l_mix (c := cell) (p := 9949) (m := 4) (by decide) (by decide)
  rw [enb] at x2
  have emany : (1 : Int) + (j : Int) = ((1 + j : Nat) : Int) := by omega
  generalize hmany : 1 + j = many at emany
  have hm1 : 1 ≤ many := by omega
  have hm4 : many ≤ 4 := by omega
  have loop1 : ∃ ρ', forL (tgName 5) g_l_book_b1 ((List.range many).map eN) [some (.d (eS ns)), some (.d (.int (at_ : Int))), some (.d (.int cell)), some (.d (eN many)), some (.own []), none, none, none, none, none, none] = .nx ρ' ∧
      ∃ (lv : List Nat) (y z : Option B), ρ' = [some (.d (eS ns)), some (.d (.int (at_ : Int))), some (.d (.int cell)), some (.d (eN many)), some (.own (lv.map eN)), y, z, none, none, none, none] ∧ lv.length = (List.range many).length ∧ ∀ l ∈ lv, 1 ≤ l ∧ l ≤ 3 := by
    refine forL_inv (fun d ρ => ∃ (lv : List Nat) (y z : Option B), ρ = [some (.d (eS ns)), some (.d (.int (at_ : Int))), some (.d (.int cell)), some (.d (eN many)), some (.own (lv.map eN)), y, z, none, none, none, none] ∧ lv.length = d.length ∧ ∀ l ∈ lv, 1 ≤ l ∧ l ≤ 3) (List.range many) ?_ ⟨[], none, none, rfl, rfl, fun _ h => by cases h⟩
    rintro d k r ρ e ⟨lv, y, z, rfl, hl, hv⟩
    have hk : k < many := List.mem_range.mp (by rw [e]; simp)
    have hd : d.length ≤ 4 := by
      have := congrArg List.length e
      simp at this
      omega
    obtain ⟨l, t, h1, h2, h3⟩ := b1_l_book (at_ := at_) (c := some (.d (.int cell))) (m := some (.d (eN many))) (y := z) (z8 := none) (z9 := none) (z10 := none) hn (show k ≤ 3 by omega) (show lv.length ≤ 1000 by omega)
    refine ⟨_, _, rfl, h3, lv ++ [l], _, _, rfl, by simp [hl], fun x hx => ?_⟩
    rcases List.mem_append.mp hx with hx | hx
    · exact hv x hx
    · rw [List.mem_singleton.mp hx]; exact ⟨h1, h2⟩
  obtain ⟨ρ1, h1, lv, y, z, rfl, hl, hv⟩ := loop1
  rw [List.length_range] at hl
  have hw : WL lv := ⟨by omega, by omega, hv⟩
  have loop2 : ∃ ρ', forL (tgName 5) g_l_book_b2 ((List.range nb).map eN) [some (.d (eS ns)), some (.d (.int (at_ : Int))), some (.d (.int cell)), some (.d (eN many)), some (.own (lv.map eN)), y, z, some (.own []), none, none, none] = .nx ρ' ∧
      ∃ (bans : List Meet) (y z u v : Option B), ρ' = [some (.d (eS ns)), some (.d (.int (at_ : Int))), some (.d (.int cell)), some (.d (eN many)), some (.own (lv.map eN)), y, z, some (.own (bans.map eM)), u, none, v] ∧ bans.length = (List.range nb).length ∧ ∀ m ∈ bans, IsMeet lv m := by
    refine forL_inv (fun d ρ => ∃ (bans : List Meet) (y z u v : Option B), ρ = [some (.d (eS ns)), some (.d (.int (at_ : Int))), some (.d (.int cell)), some (.d (eN many)), some (.own (lv.map eN)), y, z, some (.own (bans.map eM)), u, none, v] ∧ bans.length = d.length ∧ ∀ m ∈ bans, IsMeet lv m) (List.range nb) ?_ ⟨[], y, z, none, none, rfl, rfl, fun _ h => by cases h⟩
    rintro d k r ρ e ⟨bans, y, z, u, v, rfl, hb, hv⟩
    have hk : k < nb := List.mem_range.mp (by rw [e]; simp)
    have hd : d.length ≤ 4 := by
      have := congrArg List.length e
      simp at this
      omega
    obtain ⟨m, x8, x10, g1, g2⟩ := b2_l_book (ns := ns) (at_ := at_) (c := some (.d (.int cell))) (y6 := z) (y8 := u) (y10 := v) (show k ≤ 3 by omega) hl.symm hw (show bans.length ≤ 1000 by omega)
    refine ⟨_, _, rfl, g2, bans ++ [m], _, _, _, _, rfl, by simp [hb], fun x hx => ?_⟩
    rcases List.mem_append.mp hx with hx | hx
    · exact hv x hx
    · rw [List.mem_singleton.mp hx]; exact g1
  obtain ⟨ρ2, h2, bans, y2, z2, u2, v2, rfl, hb, hbm⟩ := loop2
  rw [List.length_range] at hb
  refine ⟨(lv, bans), ⟨hw, by show bans.length ≤ 3; omega, hbm⟩, ?_⟩
  have e0 := m_l_cell ns at_
  rw [hc] at e0
  unfold f_l_book
  rw [runD_eq]
  show ofS (g_l_book [some (.d (eS ns)), some (.d (.int (at_ : Int))), none, none, none, none, none, none, none, none, none]) = _
  unfold g_l_book
  rw [show eN many = .int (many : Int) from rfl] at h1 h2
  have r1 : rng1 [.int (many : Int)] = some ((List.range many).map eN) := rng1_N (by omega)
  have r2 : rng1 [.int (nb : Int)] = some ((List.range nb).map eN) := rng1_N (by omega)
  simp only [seqS_ap, setS_ap, setO_ap, forS_ap, thenS_ap, cb_ap, op2_ap, disp_ap, asNil_ap, asCons_ap, callR_ap, rd_ap, rdB_ap, kst_ap, List.getElem?_cons_succ, List.getElem?_cons_zero, List.set_cons_succ, List.set_cons_zero, Res.bind_ok, Res.map_ok, List.length_cons, List.length_nil, Nat.zero_add, Nat.reduceAdd, Nat.zero_le, if_true, e0, res_rt, x1, x2, addD_int, Res.of_some, emany, r1, r2, h1, h2]
  simp [eB, eR, eM]
theorem m_l_strength {b : Book} (h : WF b) (c : Int) : ∃ s : Nat, 1 ≤ s ∧ s ≤ 3 ∧ s ≤ b.1.length ∧ f_l_strength [eB b, .int c] = .rt (.int (s : Int)) := by
  have hlo := h.wl.lo
  have hcore : ∀ v : Nat, 1 ≤ v → v ≤ 3 → ∃ s : Nat, 1 ≤ s ∧ s ≤ 3 ∧ s ≤ b.1.length ∧ (if (b.1.length : Int) < (v : Int) then (b.1.length : Int) else (v : Int)) = (s : Int) := by
    intro v h1 h3
    by_cases hl : (b.1.length : Int) < (v : Int)
    · exact ⟨b.1.length, hlo, by omega, Nat.le_refl _, by rw [if_pos hl]⟩
    · exact ⟨v, h1, h3, by omega, by rw [if_neg hl]⟩
  have h0 : 0 ≤ c % 4 := Int.emod_nonneg _ (by decide)
  have h4 : c % 4 < 4 := Int.emod_lt_of_pos _ (by decide)
  obtain ⟨k, hk⟩ : ∃ k : Nat, c % 4 = (k : Int) := ⟨(c % 4).toNat, by omega⟩
  have hk4 : k < 4 := by omega
  have hat : ∃ v : Nat, 1 ≤ v ∧ v ≤ 3 ∧ atI [PyData.int 2, .int 2, .int 1, .int 3] (k : Int) = some (.int (v : Int)) := by
    match k, hk4 with
    | 0, _ => exact ⟨2, by decide, by decide, atI_nat rfl⟩
    | 1, _ => exact ⟨2, by decide, by decide, atI_nat rfl⟩
    | 2, _ => exact ⟨1, by decide, by decide, atI_nat rfl⟩
    | 3, _ => exact ⟨3, by decide, by decide, atI_nat rfl⟩
  obtain ⟨v, v1, v3, hv⟩ := hat
  obtain ⟨s, s1, s2, s3, hs⟩ := hcore v v1 v3
  refine ⟨s, s1, s2, s3, ?_⟩
  unfold f_l_strength
  rw [runD_eq]
  show ofS (g_l_strength [some (.d (eB b)), some (.d (.int c))]) = _
  unfold g_l_strength
  have hm : modD (.int c) (.int 4) = some (.int (k : Int)) := by simp [hk]
  have hl : ixD (eB b) (.int 0) = some (eR b.1) := by simp [eB]
  have hn : lenD [eR b.1] = some (.int (b.1.length : Int)) := by simp [eR]
  simp only [retS_ap, thenS_ap, cb_ap, asCons_ap, asNil_ap, op2_ap, frz_ap, disp_ap, kst_ap, rdB_ap, List.getElem?_cons_succ, List.getElem?_cons_zero, Res.bind_ok, Res.map_ok, List.length_cons, List.length_nil, Nat.zero_add, Nat.reduceAdd, Nat.reduceLeDiff, if_true, hm, Res.of_some, ixD_list, hv, hl, hn, minD_int, hs]
  rfl
end
end DL

/-! The plain part, 7: all meetings, by choices and by rows; their order. -/
namespace DL
open PySem PySem.Spec PyProof.Rows L2
/-- rising choices -/
def chosenM (many : Nat) : Nat → Nat → List (List Nat)
  | _, 0 => [[]]
  | least, s + 1 => (List.range' least (many - least)).flatMap fun f => (chosenM many (f + 1) s).map (f :: ·)
def meetStep (lv : List Nat) (rs : List Meet) (thing : Nat) : List Meet := rs.flatMap fun r => (List.range (lv.getD thing 0)).map fun s => r ++ [(thing, s)]
def meetRows (lv : List Nat) (things : List Nat) : List Meet := things.foldl (meetStep lv) [[]]
def allM (lv : List Nat) (s : Nat) : List Meet := (chosenM lv.length 0 s).flatMap (meetRows lv)
/-- the meetings that lie in a row -/
def subs (row : Row) : List Meet := (row.zipIdx).foldl (fun some p => some ++ some.map (· ++ [(p.2, p.1)])) [[]]
def putM (ks : List Meet) (m : Meet) : List Meet := if ks.contains m then ks else ks ++ [m]
def lawKeys (lv : List Nat) (s : Nat) : List Meet := (rows lv).foldl (fun ks r => ((subs r).filter fun m => m.length == s).foldl putM ks) []
def lvs : Nat → List (List Nat)
  | 0 => [[]]
  | n + 1 => (lvs n).flatMap fun r => [1, 2, 3].map (· :: r)
theorem mem_lvs : ∀ lv : List Nat, (∀ l ∈ lv, 1 ≤ l ∧ l ≤ 3) → lv ∈ lvs lv.length
  | [], _ => by simp [lvs]
  | l :: lv, h => by
    have h1 := h l List.mem_cons_self
    have h2 := mem_lvs lv fun x hx => h x (List.mem_cons_of_mem _ hx)
    unfold lvs
    refine List.mem_flatMap.mpr ⟨lv, h2, ?_⟩
    have : l = 1 ∨ l = 2 ∨ l = 3 := by omega
    rcases this with rfl | rfl | rfl <;> simp
def chk (lv : List Nat) (s : Nat) : Bool := (allM lv s).isPerm (lawKeys lv s) && ((allM lv s).all fun m => m.length == s && m.all fun p => decide (p.1 < lv.length)) && decide ((allM lv s).length ≤ 200) &&
  (chosenM lv.length 0 s).all fun t => t.all fun th => decide (th < lv.length)
theorem chk1 : ((lvs 1).all fun lv => [1, 2, 3].all fun s => chk lv s) = true := by decide +kernel
theorem chk2 : ((lvs 2).all fun lv => [1, 2, 3].all fun s => chk lv s) = true := by decide +kernel
theorem chk3 : ((lvs 3).all fun lv => [1, 2, 3].all fun s => chk lv s) = true := by decide +kernel
theorem chk4 : ((lvs 4).all fun lv => [1, 2, 3].all fun s => chk lv s) = true := by decide +kernel
end DL

/-! The plain part, 8: the order of meetings; choices. -/
namespace DL
open PySem PySem.Spec PyProof.Rows L2
theorem toksP (p : Nat × Nat) : PySem.W.keyToks (eP p) = [.inl 1, .inl (p.1 : Int), .inl 1, .inl (p.2 : Int), .inl 0] := by
  simp [eP, eN, PySem.W.keyToks, PySem.W.keyToksAll]
theorem toksM_inj : ∀ a b : Meet, PySem.W.keyToksAll (a.map eP) = PySem.W.keyToksAll (b.map eP) → a = b
  | [], [], _ => rfl
  | [], _ :: _, e => by simp [PySem.W.keyToksAll] at e
  | _ :: _, [], e => by simp [PySem.W.keyToksAll] at e
  | p :: a, q :: b, e => by
    simp only [List.map_cons, PySem.W.keyToksAll, toksP, List.cons_append, List.nil_append, List.cons.injEq, Sum.inl.injEq, true_and] at e
    obtain ⟨e1, e2, e3⟩ := e
    have hpq : p = q := Prod.ext (by omega) (by omega)
    rw [toksM_inj a b e3, hpq]
def leM (a b : Meet) : Bool := dle (eM a) (eM b)
theorem leM_eq (a b : Meet) : leM a b = !PyProof.Rows.lexLt itemOrd (PySem.W.keyToksAll (b.map eP)) (PySem.W.keyToksAll (a.map eP)) := by
  unfold leM dle eM
  rw [PySem.W.dataLt_tuple]
theorem leM_trans (a b c : Meet) (h1 : leM a b = true) (h2 : leM b c = true) : leM a c = true := by
  rw [leM_eq, Bool.not_eq_true'] at h1 h2 ⊢
  cases h : PyProof.Rows.lexLt itemOrd (PySem.W.keyToksAll (c.map eP)) (PySem.W.keyToksAll (a.map eP)) with
  | false => rfl
  | true =>
    rcases PyProof.Rows.lex_negTrans _ (PySem.W.keyToksAll (b.map eP)) _ h with h | h
    · rw [h2] at h; cases h
    · rw [h1] at h; cases h
theorem leM_total (a b : Meet) : (leM a b || leM b a) = true := by
  rw [leM_eq, leM_eq]
  cases h : PyProof.Rows.lexLt itemOrd (PySem.W.keyToksAll (b.map eP)) (PySem.W.keyToksAll (a.map eP)) with
  | false => rfl
  | true =>
    cases h' : PyProof.Rows.lexLt itemOrd (PySem.W.keyToksAll (a.map eP)) (PySem.W.keyToksAll (b.map eP)) with
    | false => simp
    | true =>
      have := PyProof.Rows.lex_trans _ _ _ h h'
      rw [PyProof.Rows.lex_irrefl] at this
      cases this
theorem leM_anti (a b : Meet) (h1 : leM a b = true) (h2 : leM b a = true) : a = b := by
  rw [leM_eq, Bool.not_eq_true'] at h1 h2
  exact toksM_inj _ _ (PyProof.Rows.lex_total _ _ h2 h1)
theorem sort_perm {a b : List Meet} (h : a.Perm b) : a.mergeSort leM = b.mergeSort leM :=
  List.Perm.eq_of_pairwise (fun x y _ _ h1 h2 => leM_anti x y h1 h2) (List.pairwise_mergeSort leM_trans leM_total a) (List.pairwise_mergeSort leM_trans leM_total b) (((List.mergeSort_perm a leM).trans h).trans (List.mergeSort_perm b leM).symm)
/-- all meetings of s things, rising -/
def M (lv : List Nat) (s : Nat) : List Meet := (allM lv s).mergeSort leM
theorem alike_P (p q : Nat × Nat) : PySem.W.alike (eP p) (eP q) = true := by simp [eP, eN, PySem.W.alike, PySem.W.alikeAll]
theorem alike_Ms : ∀ a b : Meet, PySem.W.alikeAll (a.map eP) (b.map eP) = true
  | [], _ => by simp [PySem.W.alikeAll]
  | _ :: _, [] => by simp [PySem.W.alikeAll]
  | p :: a, q :: b => by simp [PySem.W.alikeAll, alike_P, alike_Ms a b]
theorem sorted_Ms {ms : List Meet} (h : ∀ m ∈ ms, m ≠ []) : sortedD [.list (ms.map eM)] = some ((ms.mergeSort leM).map eM) := by
  have e : sortedD [.list (ms.map eM)] = if (allLike (ms.map eM) && sortsD (ms.map eM) && (ms.map eM).all fun d => decide (d.depth ≤ 60)) = true then some ((ms.map eM).mergeSort dle) else none := rfl
  have h1 : allLike (ms.map eM) = true := by
    unfold allLike
    simp only [List.all_eq_true, List.mem_map, forall_exists_index, and_imp, forall_apply_eq_imp_iff₂]
    intro a _ b _
    simpa [eM, PySem.W.alike] using alike_Ms a b
  have h2 : sortsD (ms.map eM) = true := by
    unfold sortsD
    rw [Bool.or_eq_true]
    left
    simp only [List.all_eq_true, List.mem_map, forall_exists_index, and_imp, forall_apply_eq_imp_iff₂]
    intro a ha
    cases a with
    | nil => exact absurd rfl (h _ ha)
    | cons p a => rfl
  have h3 : ((ms.map eM).all fun d => decide (d.depth ≤ 60)) = true := by
    simp only [List.all_eq_true, List.mem_map, forall_exists_index, and_imp, forall_apply_eq_imp_iff₂]
    intro a _
    exact decide_eq_true (Nat.le_trans (nmM a).2 (by decide))
  rw [e, h1, h2, h3]
  simp only [Bool.and_self, if_true]
  congr 1
  exact (PySem.W.sort_maps eM fun a _ b _ => rfl).symm
/-! ### what the check says -/
theorem chk_of {lv : List Nat} (h : WL lv) {s : Nat} (h1 : 1 ≤ s) (h3 : s ≤ 3) : chk lv s = true := by
  have hm := mem_lvs lv h.lev
  have hs : s ∈ [1, 2, 3] := by
    have : s = 1 ∨ s = 2 ∨ s = 3 := by omega
    rcases this with rfl | rfl | rfl <;> simp
  have hl : lv.length = 1 ∨ lv.length = 2 ∨ lv.length = 3 ∨ lv.length = 4 := by have := h.lo; have := h.hi; omega
  rcases hl with e | e | e | e <;> rw [e] at hm
  · exact List.all_eq_true.mp (List.all_eq_true.mp chk1 lv hm) s hs
  · exact List.all_eq_true.mp (List.all_eq_true.mp chk2 lv hm) s hs
  · exact List.all_eq_true.mp (List.all_eq_true.mp chk3 lv hm) s hs
  · exact List.all_eq_true.mp (List.all_eq_true.mp chk4 lv hm) s hs
structure MF (lv : List Nat) (s : Nat) : Prop where
  perm : (allM lv s).Perm (lawKeys lv s)
  len : ∀ m ∈ allM lv s, m.length = s
  lt : ∀ m ∈ allM lv s, ∀ p ∈ m, p.1 < lv.length
  few : (allM lv s).length ≤ 200
  ch : ∀ t ∈ chosenM lv.length 0 s, ∀ th ∈ t, th < lv.length
theorem mf_of {lv : List Nat} (h : WL lv) {s : Nat} (h1 : 1 ≤ s) (h3 : s ≤ 3) : MF lv s := by
  have c := chk_of h h1 h3
  unfold chk at c
  simp only [Bool.and_eq_true, List.all_eq_true, decide_eq_true_eq, beq_iff_eq] at c
  obtain ⟨⟨⟨c1, c2⟩, c3⟩, c4⟩ := c
  exact ⟨List.isPerm_iff.mp c1, fun m hm => (c2 m hm).1, fun m hm => (c2 m hm).2, c3, c4⟩
theorem MF.memM {lv : List Nat} {s : Nat} {m : Meet} (h : m ∈ M lv s) : m ∈ allM lv s := List.mem_mergeSort.mp h
end DL

/-! The plain part, 9: all meetings, as the program finds them. -/
namespace DL
open PySem PySem.Spec PyProof.Rows L2
section
open DM
theorem m_chosen {many s : Nat} (h1 : 1 ≤ many) (h4 : many ≤ 4) (s1 : 1 ≤ s) (s3 : s ≤ 3) : f_chosen [.int (many : Int), .int 0, .int (s : Int)] = .ro ((chosenM many 0 s).map eR) := by
  have hm : many = 1 ∨ many = 2 ∨ many = 3 ∨ many = 4 := by omega
  have hs : s = 1 ∨ s = 2 ∨ s = 3 := by omega
  rcases hm with rfl | rfl | rfl | rfl <;> rcases hs with rfl | rfl | rfl <;> kernel_rfl
theorem chosen_len (many : Nat) : ∀ (s least : Nat), ∀ t ∈ chosenM many least s, t.length = s
  | 0, _, t, h => by
    simp only [chosenM, List.mem_singleton] at h
    rw [h]; rfl
  | s + 1, least, t, h => by
    simp only [chosenM, List.mem_flatMap, List.mem_map] at h
    obtain ⟨f, _, r, hr, rfl⟩ := h
    rw [List.length_cons, chosen_len many s (f + 1) r hr]
theorem mstep_len (lv : List Nat) (rs : List Meet) (th : Nat) : (meetStep lv rs th).length = rs.length * lv.getD th 0 := by
  unfold meetStep
  induction rs with
  | nil => simp
  | cons r f ih => simp only [List.flatMap_cons, List.length_append, ih, List.length_map, List.length_range, List.length_cons, Nat.add_mul, Nat.one_mul]; omega
theorem mrows_snoc (lv things : List Nat) (th : Nat) : meetRows lv (things ++ [th]) = meetStep lv (meetRows lv things) th := by simp [meetRows, List.foldl_append]
theorem getD_le {lv : List Nat} (h : WL lv) (th : Nat) : lv.getD th 0 ≤ 3 := by
  by_cases hl : th < lv.length
  · rw [List.getD_eq_getElem?_getD, List.getElem?_eq_getElem hl]
    exact (h.lev _ (List.getElem_mem hl)).2
  · rw [List.getD_eq_getElem?_getD, List.getElem?_eq_none (by omega)]
    exact Nat.zero_le _
theorem mrows_bound {lv : List Nat} (h : WL lv) (things : List Nat) : (meetRows lv things).length ≤ 3 ^ things.length := by
  induction things using rows_ind with
  | h0 => simp [meetRows]
  | hs things th ih =>
    rw [mrows_snoc, mstep_len, List.length_append]
    simp only [List.length_singleton, Nat.pow_succ]
    exact Nat.mul_le_mul ih (getD_le h th)
theorem mrows_mem_len (lv : List Nat) (things : List Nat) : ∀ r ∈ meetRows lv things, r.length = things.length := by
  induction things using rows_ind with
  | h0 => simp [meetRows]
  | hs things th ih =>
    intro r hr
    rw [mrows_snoc] at hr
    unfold meetStep at hr
    simp only [List.mem_flatMap, List.mem_map] at hr
    obtain ⟨r0, h0, s, _, rfl⟩ := hr
    simp [ih r0 h0]
theorem ext_meet {lv : List Nat} (h : WL lv) {r : Meet} {th : Nat} (ht : th < lv.length) (hr : r.length ≤ 1000) {a b c d e : Option B} :
    lc (cb rng1 (asCons (op2 ixD (rdB 0) (rdB 5)) asNil)) (tgName 8) yes g_meetings_of_e1 [8] [some (.d (eR lv)), a, b, c, d, some (.d (eN th)), e, some (.d (eM r)), none] = .ok (((List.range (lv.getD th 0)).map fun s => r ++ [(th, s)]).map eM) := by
  have hl := getD_le h th
  have hg : atI (lv.map eN) (th : Int) = some (eN (lv.getD th 0)) := by
    rw [atR ht]
    congr 2
    rw [List.getD_eq_getElem?_getD, List.getElem?_eq_getElem ht]
    rfl
  have := lc_map (fi := cb rng1 (asCons (op2 ixD (rdB 0) (rdB 5)) asNil)) (t := tgName 8) (c := yes) (e := g_meetings_of_e1) (vs := [8]) (ρ := [some (.d (eR lv)), a, b, c, d, some (.d (eN th)), e, some (.d (eM r)), none]) (enc := eN) (p := fun _ => true) (g := fun s => eM (r ++ [(th, s)])) (List.range (lv.getD th 0))
    (by
      rw [show eN th = .int (th : Int) from rfl, show eR lv = .tuple (lv.map eN) from rfl]
      simp only [cb_ap, asCons_ap, asNil_ap, op2_ap, rdB_ap, List.getElem?_cons_succ, List.getElem?_cons_zero, Res.bind_ok, Res.map_ok, ixD_tup, hg, Res.of_some]
      rw [show eN (lv.getD th 0) = .int ((lv.getD th 0 : Nat) : Int) from rfl, rng1_N (by omega)]
      rfl) fun s hs => ⟨[some (.d (eR lv)), a, b, c, d, some (.d (eN th)), e, some (.d (eM r)), some (.d (eN s))], rfl, rfl, fun _ => by
      have hz : r.length + 1 ≤ sizeLine := by have := sizeLine_big; omega
      unfold g_meetings_of_e1
      simp [eM, eP, hz]⟩
  rw [this, List.filter_eq_self.mpr (fun _ _ => rfl), List.map_map]
  rfl
theorem m_meetings_of {lv : List Nat} (h : WL lv) {s : Nat} (s1 : 1 ≤ s) (s3 : s ≤ 3) : f_meetings_of [eR lv, .int (s : Int)] = .ro ((M lv s).map eM) := by
  have mf := mf_of h s1 s3
  have inner : ∀ (rs : List Meet) (th : Nat) (b c e : Option B), th < lv.length → rs.length ≤ 100 → (∀ r ∈ rs, r.length ≤ 100) → ∀ y, ∃ ρ', forL (tgName 7) g_meetings_of_b1 (rs.map eM) [some (.d (eR lv)), b, c, e, some (.d (.list (rs.map eM))), some (.d (eN th)), some (.own []), y, none] = .nx ρ' ∧
      ∃ y, ρ' = [some (.d (eR lv)), b, c, e, some (.d (.list (rs.map eM))), some (.d (eN th)), some (.own ((meetStep lv rs th).map eM)), y, none] := by
    intro rs th b c e hth hrs hr y
    refine forL_inv (fun d ρ => ∃ y, ρ = [some (.d (eR lv)), b, c, e, some (.d (.list (rs.map eM))), some (.d (eN th)), some (.own ((meetStep lv d th).map eM)), y, none]) rs ?_ ⟨y, rfl⟩
    rintro d x r ρ ed ⟨y, rfl⟩
    have hx : x.length ≤ 100 := hr x (by rw [ed]; simp)
    have hd : d.length ≤ 100 := by rw [ed, List.length_append] at hrs; omega
    refine ⟨_, [some (.d (eR lv)), b, c, e, some (.d (.list (rs.map eM))), some (.d (eN th)), some (.own ((meetStep lv (d ++ [x]) th).map eM)), some (.d (eM x)), none], rfl, ?_, _, rfl⟩
    show g_meetings_of_b1 [some (.d (eR lv)), b, c, e, some (.d (.list (rs.map eM))), some (.d (eN th)), some (.own ((meetStep lv d th).map eM)), some (.d (eM x)), none] = _
    have e2 := ext_meet h (r := x) hth (by omega) (a := b) (b := c) (c := e) (d := some (.d (.list (rs.map eM)))) (e := some (.own ((meetStep lv d th).map eM)))
    unfold g_meetings_of_b1
    rw [extS_own (i := 6) (xs := (meetStep lv d th).map eM) (ys := ((List.range (lv.getD th 0)).map fun s => x ++ [(th, s)]).map eM) rfl (congrArg (Res.map PyData.list) e2) (by
      have := sizeLine_big
      have h1 : d.length * lv.getD th 0 ≤ 100 * 3 := Nat.mul_le_mul hd (getD_le h th)
      have h2 := getD_le h th
      rw [List.length_map, mstep_len, List.length_map, List.length_map, List.length_range]
      omega)]
    simp [meetStep, List.flatMap_append]
  have mid : ∀ (things : List Nat) (b c : Option B), (∀ th ∈ things, th < lv.length) → things.length ≤ 3 → ∀ x y z, ∃ ρ', forL (tgName 5) g_meetings_of_b2 (things.map eN) [some (.d (eR lv)), b, c, some (.d (eR things)), some (.d (.list [.tuple []])), x, y, z, none] = .nx ρ' ∧
      ∃ x y z, ρ' = [some (.d (eR lv)), b, c, some (.d (eR things)), some (.d (.list ((meetRows lv things).map eM))), x, y, z, none] := by
    intro things b c hth hl x y z
    refine forL_inv (fun d ρ => ∃ x y z, ρ = [some (.d (eR lv)), b, c, some (.d (eR things)), some (.d (.list ((meetRows lv d).map eM))), x, y, z, none]) things ?_ ⟨x, y, z, rfl⟩
    rintro d th r ρ e ⟨x, y, z, rfl⟩
    have hd : d.length ≤ 3 := by rw [e, List.length_append] at hl; omega
    have h81 : (meetRows lv d).length ≤ 100 := Nat.le_trans (mrows_bound h d) (Nat.le_trans (Nat.pow_le_pow_right (by decide) hd) (by decide))
    obtain ⟨ρ', h1, w, h2⟩ := inner (meetRows lv d) th b c (some (.d (eR things))) (hth th (by rw [e]; simp)) h81 (fun r hr => by rw [mrows_mem_len lv d r hr]; omega) z
    subst h2
    refine ⟨_, [some (.d (eR lv)), b, c, some (.d (eR things)), some (.d (.list ((meetRows lv (d ++ [th])).map eM))), some (.d (eN th)), some (.d (.list ((meetRows lv (d ++ [th])).map eM))), w, none], rfl, ?_, _, _, _, rfl⟩
    show g_meetings_of_b2 [some (.d (eR lv)), b, c, some (.d (eR things)), some (.d (.list ((meetRows lv d).map eM))), some (.d (eN th)), y, z, none] = _
    unfold g_meetings_of_b2
    simp [h1, mrows_snoc]
  have hch := mf.ch
  have outer : ∃ ρ', forL (tgName 3) g_meetings_of_b3 ((chosenM lv.length 0 s).map eR) [some (.d (eR lv)), some (.d (.int (s : Int))), some (.own []), none, none, none, none, none, none] = .nx ρ' ∧ ∃ x y z u v, ρ' = [some (.d (eR lv)), some (.d (.int (s : Int))), some (.own ((allM lv s).map eM)), x, y, z, u, v, none] := by
    refine forL_inv (fun d ρ => ∃ x y z u v, ρ = [some (.d (eR lv)), some (.d (.int (s : Int))), some (.own ((d.flatMap (meetRows lv)).map eM)), x, y, z, u, v, none]) (chosenM lv.length 0 s) ?_ ⟨none, none, none, none, none, rfl⟩
    rintro d things r ρ e ⟨x, y, z, u, v, rfl⟩
    have hmem : things ∈ chosenM lv.length 0 s := by rw [e]; simp
    obtain ⟨ρ', h1, x', y', z', rfl⟩ := mid things (some (.d (.int (s : Int)))) (some (.own ((d.flatMap (meetRows lv)).map eM))) (hch things hmem) (by rw [chosen_len _ _ _ things hmem]; exact s3) z u v
    refine ⟨_, [some (.d (eR lv)), some (.d (.int (s : Int))), some (.own (((d ++ [things]).flatMap (meetRows lv)).map eM)), some (.d (eR things)), some (.d (.list ((meetRows lv things).map eM))), x', y', z', none], rfl, ?_, _, _, _, _, _, rfl⟩
    show g_meetings_of_b3 [some (.d (eR lv)), some (.d (.int (s : Int))), some (.own ((d.flatMap (meetRows lv)).map eM)), some (.d (eR things)), y, z, u, v, none] = _
    have hz : ((d.flatMap (meetRows lv)).map eM).length + ((meetRows lv things).map eM).length ≤ sizeLine := by
      have h2 := mf.few
      unfold allM at h2
      rw [e, List.flatMap_append, List.flatMap_cons, List.length_append, List.length_append] at h2
      have := sizeLine_big
      rw [List.length_map, List.length_map]
      omega
    unfold g_meetings_of_b3
    rw [show eR things = .tuple (things.map eN) from rfl] at h1 ⊢
    simp only [seqS_ap, setS_ap, forS_ap, thenS_ap, frz_ap, disp_ap, asCons_ap, asNil_ap, dispT_ap, Res.bind_ok, Res.map_ok, List.length_nil, List.length_cons, Nat.zero_le, Nat.zero_add, Nat.reduceLeDiff, if_true, List.set_cons_succ, List.set_cons_zero, toSeq_ap, rd_ap, List.getElem?_cons_succ, List.getElem?_cons_zero, seqOf_tup, Res.of_some, h1]
    rw [extS_own (i := 2) (xs := (d.flatMap (meetRows lv)).map eM) (ys := (meetRows lv things).map eM) rfl rfl hz]
    simp [List.flatMap_append]
  obtain ⟨ρ', h1, x, y, z, u, v, rfl⟩ := outer
  have e1 := m_chosen h.lo h.hi s1 s3
  have e2 : sortedD [.list ((allM lv s).map eM)] = some ((M lv s).map eM) := sorted_Ms fun m hm z => by
    have := mf.len m hm
    rw [z] at this
    simp at this
    omega
  unfold f_meetings_of
  rw [runD_eq]
  show ofS (g_meetings_of [some (.d (eR lv)), some (.d (.int (s : Int))), none, none, none, none, none, none, none]) = _
  have e3 : lenD [eR lv] = some (.int (lv.length : Int)) := by simp [eR]
  unfold g_meetings_of
  simp only [seqS_ap, setO_ap, forS_ap, thenS_ap, disp_ap, asCons_ap, asNil_ap, cb_ap, callR_ap, kst_ap, Res.bind_ok, Res.map_ok, List.length_nil, List.length_cons, Nat.zero_le, Nat.zero_add, Nat.reduceAdd, if_true, List.set_cons_succ, List.set_cons_zero, toSeq_ap, rd_ap, rdB_ap, List.getElem?_cons_succ, List.getElem?_cons_zero, e3, e1, res_ro, seqOf_list, Res.of_some, h1, retO_ap, e2, ofS_ro]
end
end DL

/-! The plain part, 10: all meetings, as the law finds them. -/
namespace DL
open PySem PySem.Spec PyProof.Rows L2
def nkP (p : Nat × Nat) : NestedKey := .tup [.num (p.1 : Int), .num (p.2 : Int)]
theorem keyOf_P (p : Nat × Nat) : keyOf (eP p) = some (nkP p) := by simp [eP, eN, keyOf, keysOf, nkP]
theorem keysOf_Ps : ∀ m : Meet, keysOf (m.map eP) = some (m.map nkP)
  | [] => by simp [keysOf]
  | p :: m => by simp [keysOf, keyOf_P, keysOf_Ps m]
theorem keyOf_M (m : Meet) : keyOf (eM m) = some (.tup (m.map nkP)) := by simp [eM, keyOf, keysOf_Ps]
theorem nkP_inj {p q : Nat × Nat} (h : nkP p = nkP q) : p = q := by
  simp only [nkP, NestedKey.tup.injEq, List.cons.injEq, NestedKey.num.injEq, and_true] at h
  exact Prod.ext (by omega) (by omega)
theorem keyM_iff (a b : Meet) : keyOf (eM a) = keyOf (eM b) ↔ a = b := by
  rw [keyOf_M, keyOf_M]
  constructor
  · intro h
    exact map_inj (fun _ _ => nkP_inj) (NestedKey.tup.inj (Option.some.inj h))
  · rintro rfl; rfl
theorem nk_depth : ∀ m : Meet, NestedKey.depthAll (m.map nkP) ≤ 1
  | [] => by simp [NestedKey.depthAll]
  | p :: m => by
    have := nk_depth m
    simp [NestedKey.depthAll, NestedKey.depth, nkP]
    omega
theorem okKey_M (m : Meet) : okKey (eM m) = true := by
  show (match keysOf (m.map eP) with | some ks => decide ((NestedKey.tup ks).depth ≤ 8) | none => false) = true
  rw [keysOf_Ps]
  have := nk_depth m
  exact decide_eq_true (by simp [NestedKey.depth]; omega)
def kv (m : Meet) : D × D := (eM m, .bool true)
theorem put_M (ks : List Meet) (m : Meet) : putK (ks.map kv) (eM m) (.bool true) = (putM ks m).map kv := by
  have h1 : hasK (ks.map kv) (eM m) = ks.contains m := by
    unfold hasK
    rw [List.any_map, Bool.eq_iff_iff]
    simp only [List.any_eq_true, Function.comp, decide_eq_true_eq, List.contains_iff_mem, kv, keyM_iff]
    constructor
    · rintro ⟨x, hx, rfl⟩; exact hx
    · intro h; exact ⟨m, h, rfl⟩
  unfold putK putM
  rw [h1]
  cases ks.contains m with
  | true =>
    simp only [if_true, List.map_map]
    apply List.map_congr_left
    intro x _
    simp only [Function.comp, kv, keyM_iff]
    split <;> rfl
  | false => simp [kv]
theorem putM_len (ks : List Meet) (m : Meet) : (putM ks m).length ≤ ks.length + 1 := by
  unfold putM
  split
  · omega
  · simp
def kInto (s : Nat) (ks : List Meet) (ms : List Meet) : List Meet := (ms.filter fun m => m.length == s).foldl putM ks
theorem kInto_snoc (s : Nat) (ks ms : List Meet) (m : Meet) : kInto s ks (ms ++ [m]) = if m.length = s then putM (kInto s ks ms) m else kInto s ks ms := by
  unfold kInto
  rw [List.filter_append, List.foldl_append]
  by_cases h : m.length = s <;> simp [List.filter_cons, h]
theorem kInto_len (s : Nat) (ks : List Meet) (ms : List Meet) : (kInto s ks ms).length ≤ ks.length + ms.length := by
  suffices ∀ r : List Meet, (kInto s ks r.reverse).length ≤ ks.length + r.length by simpa using this ms.reverse
  intro r
  induction r with
  | nil => simp [kInto]
  | cons m r ih =>
    rw [List.reverse_cons, kInto_snoc]
    have := putM_len (kInto s ks r.reverse) m
    rw [List.length_cons]
    split <;> omega
def subsOf (zs : List (Nat × Nat)) : List Meet := zs.foldl (fun some p => some ++ some.map (· ++ [(p.2, p.1)])) [[]]
theorem subsOf_snoc (zs : List (Nat × Nat)) (p : Nat × Nat) : subsOf (zs ++ [p]) = subsOf zs ++ (subsOf zs).map (· ++ [(p.2, p.1)]) := by simp [subsOf, List.foldl_append]
theorem subsOf_ind {P : List (Nat × Nat) → Prop} (h0 : P []) (hs : ∀ zs p, P zs → P (zs ++ [p])) (zs : List (Nat × Nat)) : P zs := by
  suffices ∀ r : List (Nat × Nat), P r.reverse by simpa using this zs.reverse
  intro r
  induction r with
  | nil => exact h0
  | cons l r ih => rw [List.reverse_cons]; exact hs _ _ ih
theorem subsOf_len (zs : List (Nat × Nat)) : (subsOf zs).length = 2 ^ zs.length := by
  induction zs using subsOf_ind with
  | h0 => rfl
  | hs zs p ih => rw [subsOf_snoc, List.length_append, List.length_map, ih, List.length_append, List.length_singleton, Nat.pow_succ]; omega
theorem subsOf_mem (zs : List (Nat × Nat)) : ∀ m ∈ subsOf zs, m.length ≤ zs.length := by
  induction zs using subsOf_ind with
  | h0 => simp [subsOf]
  | hs zs p ih =>
    intro m hm
    rw [subsOf_snoc, List.mem_append] at hm
    rw [List.length_append, List.length_singleton]
    rcases hm with hm | hm
    · have := ih m hm; omega
    · obtain ⟨x, hx, rfl⟩ := List.mem_map.mp hm
      have := ih x hx
      simp
      exact this
def eZ (p : Nat × Nat) : D := .tuple [.int ((p.2 : Nat) : Int), eN p.1]
theorem enumL_R (r : Row) : enumL (r.map eN) = r.zipIdx.map eZ := by
  unfold enumL
  rw [List.zipIdx_map, List.map_map]
  rfl
section
open DM
theorem l_sub_b1 {zs : List (Nat × Nat)} {b s d r : Option B} {p : Nat × Nat} {w : Option B} (hz : zs.length ≤ 4) :
    g_l_meetings_b1 [b, s, d, r, some (.d (.list ((subsOf zs).map eM))), some (.d (.int (p.2 : Int))), some (.d (eN p.1)), w] = .nx [b, s, d, r, some (.d (.list ((subsOf (zs ++ [p])).map eM))), some (.d (.int (p.2 : Int))), some (.d (eN p.1)), w] := by
  have hl : (subsOf zs).length ≤ 16 := by rw [subsOf_len]; exact Nat.le_trans (Nat.pow_le_pow_right (by decide) hz) (by decide)
  have e := lc_map (fi := toSeq (rdB 4)) (t := tgName 7) (c := yes) (e := g_l_meetings_e1) (vs := [7]) (ρ := [b, s, d, r, some (.d (.list ((subsOf zs).map eM))), some (.d (.int (p.2 : Int))), some (.d (eN p.1)), w]) (enc := eM) (p := fun _ => true) (g := fun m => eM (m ++ [(p.2, p.1)])) (subsOf zs) rfl
    fun m hm => ⟨[b, s, d, r, some (.d (.list ((subsOf zs).map eM))), some (.d (.int (p.2 : Int))), some (.d (eN p.1)), some (.d (eM m))], rfl, rfl, fun _ => by
      have h1 : m.length + 1 ≤ sizeLine := by have := subsOf_mem zs m hm; have := sizeLine_big; omega
      unfold g_l_meetings_e1
      simp [eM, eP, eN, h1]⟩
  rw [List.filter_eq_self.mpr (fun _ _ => rfl)] at e
  have h2 : (subsOf zs).length + (subsOf zs).length ≤ sizeLine := by have := sizeLine_big; omega
  unfold g_l_meetings_b1
  simp only [setS_ap, thenS_ap, op2_ap, frz_ap, rdB_ap, List.getElem?_cons_succ, List.getElem?_cons_zero, e, Res.bind_ok, Res.map_ok, addD_list, List.length_map, h2, if_true, Res.of_some]
  simp [subsOf_snoc]
theorem l_sub {r : Row} {b s d : Option B} (hr : r.length ≤ 4) (x y w : Option B) : ∃ ρ', forL (tgPair 5 6) g_l_meetings_b1 (enumL (r.map eN)) [b, s, d, some (.d (eR r)), some (.d (.list [.tuple []])), x, y, w] = .nx ρ' ∧
    ∃ x y, ρ' = [b, s, d, some (.d (eR r)), some (.d (.list ((subs r).map eM))), x, y, w] := by
  rw [enumL_R]
  refine forL_inv (fun zs ρ => ∃ x y, ρ = [b, s, d, some (.d (eR r)), some (.d (.list ((subsOf zs).map eM))), x, y, w]) r.zipIdx ?_ ⟨x, y, rfl⟩
  rintro zs p rest ρ e ⟨x, y, rfl⟩
  have hz : zs.length ≤ 4 := by
    have := congrArg List.length e
    rw [List.length_zipIdx, List.length_append] at this
    omega
  exact ⟨_, _, rfl, l_sub_b1 hz , _, _, rfl⟩
theorem l_put {ms ks : List Meet} {b r t : Option B} {s : Nat} (hb : ks.length + ms.length ≤ 100000) (x y w : Option B) : ∃ ρ', forL (tgName 7) g_l_meetings_b2 (ms.map eM) [b, some (.d (.int (s : Int))), some (.dct (ks.map kv)), r, t, x, y, w] = .nx ρ' ∧
    ∃ z, ρ' = [b, some (.d (.int (s : Int))), some (.dct ((kInto s ks ms).map kv)), r, t, x, y, z] := by
  refine forL_inv (fun d ρ => ∃ z, ρ = [b, some (.d (.int (s : Int))), some (.dct ((kInto s ks d).map kv)), r, t, x, y, z]) ms ?_ ⟨w, rfl⟩
  rintro d m rest ρ e ⟨z, rfl⟩
  refine ⟨_, [b, some (.d (.int (s : Int))), some (.dct ((kInto s ks (d ++ [m])).map kv)), r, t, x, y, some (.d (eM m))], rfl, ?_, _, rfl⟩
  show g_l_meetings_b2 [b, some (.d (.int (s : Int))), some (.dct ((kInto s ks d).map kv)), r, t, x, y, some (.d (eM m))] = _
  have hz : ((kInto s ks d).map kv).length < sizeLine := by
    have h1 := kInto_len s ks d
    have h2 := congrArg List.length e
    rw [List.length_append] at h2
    have := sizeLine_big
    rw [List.length_map]
    omega
  have hl : lenD [eM m] = some (.int (m.length : Int)) := by simp [eM]
  unfold g_l_meetings_b2
  simp only [ifS_ap, thenS_ap, toB_ap, op2_ap, cb_ap, asCons_ap, asNil_ap, rdB_ap, List.getElem?_cons_succ, List.getElem?_cons_zero, Res.bind_ok, Res.map_ok, hl, Res.of_some, eqD_int, boolD_bool]
  rw [kInto_snoc]
  by_cases h : m.length = s
  · rw [decide_eq_true (show (m.length : Int) = (s : Int) by omega), if_pos rfl, if_pos h, dputS_at (i := 2) (kvs := (kInto s ks d).map kv) (k := eM m) (v := .bool true) rfl rfl rfl (okKey_M m) hz, put_M]
    rfl
  · rw [decide_eq_false (show ¬ (m.length : Int) = (s : Int) by omega), if_neg (by decide), if_neg h]
def lawK (s : Nat) (rs : List Row) : List Meet := rs.foldl (fun ks r => kInto s ks (subs r)) []
theorem lawK_snoc (s : Nat) (rs : List Row) (r : Row) : lawK s (rs ++ [r]) = kInto s (lawK s rs) (subs r) := by simp [lawK, List.foldl_append]
theorem subs_len (r : Row) (h : r.length ≤ 4) : (subs r).length ≤ 16 := by
  have e : subs r = subsOf r.zipIdx := rfl
  rw [e, subsOf_len, List.length_zipIdx]
  exact Nat.le_trans (Nat.pow_le_pow_right (by decide) h) (by decide)
theorem lawK_len (s : Nat) (rs : List Row) (h : ∀ r ∈ rs, r.length ≤ 4) : (lawK s rs).length ≤ 16 * rs.length := by
  suffices ∀ q : List Row, (∀ r ∈ q, r.length ≤ 4) → (lawK s q.reverse).length ≤ 16 * q.length by simpa using this rs.reverse (fun r hr => h r (List.mem_reverse.mp hr))
  intro q
  induction q with
  | nil => simp [lawK]
  | cons r q ih =>
    intro h
    rw [List.reverse_cons, lawK_snoc]
    have h1 := ih fun x hx => h x (List.mem_cons_of_mem _ hx)
    have h2 := kInto_len s (lawK s q.reverse) (subs r)
    have h3 := subs_len r (h r List.mem_cons_self)
    rw [List.length_cons]
    omega
theorem m_l_meetings {b : Book} (h : WF b) {s : Nat} (s1 : 1 ≤ s) (s3 : s ≤ 3) : f_l_meetings [eB b, .int (s : Int)] = .ro ((M b.1 s).map eM) := by
  have mf := mf_of h.wl s1 s3
  have h4 : ∀ r ∈ rows b.1, r.length ≤ 4 := fun r hr => by rw [rows_mem_len b.1 r hr]; exact h.wl.hi
  have loop : ∃ ρ', forL (tgName 3) g_l_meetings_b3 ((rows b.1).map eR) [some (.d (eB b)), some (.d (.int (s : Int))), some (.dct []), none, none, none, none, none] = .nx ρ' ∧
      ∃ x y z u v, ρ' = [some (.d (eB b)), some (.d (.int (s : Int))), some (.dct ((lawK s (rows b.1)).map kv)), x, y, z, u, v] := by
    refine forL_inv (fun d ρ => ∃ x y z u v, ρ = [some (.d (eB b)), some (.d (.int (s : Int))), some (.dct ((lawK s d).map kv)), x, y, z, u, v]) (rows b.1) ?_ ⟨none, none, none, none, none, rfl⟩
    rintro d r rest ρ e ⟨x, y, z, u, v, rfl⟩
    have hr : r ∈ rows b.1 := by rw [e]; simp
    obtain ⟨ρ1, g1, x1, y1, rfl⟩ := l_sub (r := r) (b := some (.d (eB b))) (s := some (.d (.int (s : Int)))) (d := some (.dct ((lawK s d).map kv))) (h4 r hr) z u v
    have hd : ∀ q ∈ d, q.length ≤ 4 := fun q hq => h4 q (by rw [e]; simp [hq])
    have hb : (lawK s d).length + (subs r).length ≤ 100000 := by
      have h1 := lawK_len s d hd
      have h2 := subs_len r (h4 r hr)
      have h3 := rows_le h
      rw [e, List.length_append] at h3
      omega
    obtain ⟨ρ2, g2, z2, rfl⟩ := l_put (ms := subs r) (ks := lawK s d) (b := some (.d (eB b))) (r := some (.d (eR r))) (t := some (.d (.list ((subs r).map eM)))) (s := s) hb x1 y1 v
    refine ⟨_, [some (.d (eB b)), some (.d (.int (s : Int))), some (.dct ((lawK s (d ++ [r])).map kv)), some (.d (eR r)), some (.d (.list ((subs r).map eM))), x1, y1, z2], rfl, ?_, _, _, _, _, _, rfl⟩
    show g_l_meetings_b3 [some (.d (eB b)), some (.d (.int (s : Int))), some (.dct ((lawK s d).map kv)), some (.d (eR r)), y, z, u, v] = _
    unfold g_l_meetings_b3
    rw [lawK_snoc, ← g2]
    rw [show eR r = .tuple (r.map eN) from rfl] at g1 ⊢
    simp only [seqS_ap, setS_ap, forS_ap, thenS_ap, frz_ap, disp_ap, asCons_ap, asNil_ap, dispT_ap, Res.bind_ok, Res.map_ok, List.length_nil, List.length_cons, Nat.zero_le, Nat.zero_add, Nat.reduceLeDiff, if_true, List.set_cons_succ, List.set_cons_zero, toEnum_ap, toSeq_ap, rd_ap, List.getElem?_cons_succ, List.getElem?_cons_zero, seqOf_tup, seqOf_list, Res.of_some, g1]
  obtain ⟨ρ', h1, x, y, z, u, v, rfl⟩ := loop
  have hp : (lawK s (rows b.1)).Perm (allM b.1 s) := mf.perm.symm
  have e2 : sortedD [.list (((lawK s (rows b.1)).map kv).map (·.1))] = some ((M b.1 s).map eM) := by
    rw [List.map_map]
    have := sorted_Ms (ms := lawK s (rows b.1)) fun m hm z => by
      have := mf.len m (hp.mem_iff.mp hm)
      rw [z] at this
      simp at this
      omega
    rw [sort_perm hp] at this
    exact this
  unfold f_l_meetings
  rw [runD_eq]
  show ofS (g_l_meetings [some (.d (eB b)), some (.d (.int (s : Int))), none, none, none, none, none, none]) = _
  unfold g_l_meetings
  have e0 : callR 1 f_l_rows (asCons (op2 ixD (rdB 0) (kst (.int 0))) asNil) [some (.d (eB b)), some (.d (.int (s : Int))), some (.dct []), none, none, none, none, none] = .ok (.list ((rows b.1).map eR)) := by
    simp [eB, m_l_rows h.wl]
  simp only [seqS_ap, dnewS_ap, forS_ap, thenS_ap, toSeq_ap, List.set_cons_succ, List.set_cons_zero, e0, Res.bind_ok, seqOf_list, Res.of_some, h1, retO_ap]
  have e3 : sortedDR 2 [some (.d (eB b)), some (.d (.int (s : Int))), some (.dct ((lawK s (rows b.1)).map kv)), x, y, z, u, v] = .ok ((M b.1 s).map eM) := by
    show sortK _ = _
    unfold sortK
    rw [e2]
    rfl
  rw [e3]
  rfl
end
end DL

/-! The plain part, 11: possible and impossible meetings. -/
namespace DL
open PySem PySem.Spec PyProof.Rows L2
def poss (b : Book) (s : Nat) : List Meet := (M b.1 s).filter fun m => (tests b).any fun t => meets t m
def imposs (b : Book) (s : Nat) : List Meet := (M b.1 s).filter fun m => !(poss b s).contains m
theorem filter_empty {α : Type} (p : α → Bool) (xs : List α) : (!(xs.filter p).isEmpty) = xs.any p := by
  induction xs with
  | nil => rfl
  | cons x xs ih => cases hp : p x <;> simp [List.filter_cons, hp, ih]
theorem filter_nil_any {α : Type} (p : α → Bool) (xs : List α) : xs.filter p = [] ↔ ¬ xs.any p = true := by simp
theorem in_M (neg : Bool) (m : Meet) (ms : List Meet) : inD neg (eM m) (.list (ms.map eM)) = some (.bool (neg ^^ ms.contains m)) := by
  have h1 : SeqAt.shaped (eM m) = true := (nmM m).shaped (by decide)
  have h2 : SeqAt.shaped (.list (ms.map eM)) = true := (nmMs ms).shaped (by decide)
  have h3 : ((ms.map eM).any fun y => PyData.eqv y (eM m)) = ms.contains m := by
    rw [List.any_map, Bool.eq_iff_iff]
    simp only [List.any_eq_true, Function.comp, List.contains_iff_mem]
    constructor
    · rintro ⟨x, hx, e⟩
      rw [← eM_inj ((eqv_nums _ _ (nmM x).1 (nmM m).1).mp e)]
      exact hx
    · intro h
      exact ⟨m, h, (eqv_nums _ _ (nmM m).1 (nmM m).1).mpr rfl⟩
  show (if SeqAt.shaped (eM m) = true ∧ SeqAt.shaped (.list (ms.map eM)) = true then some (PyData.bool (neg ^^ (ms.map eM).any fun y => PyData.eqv y (eM m))) else none) = _
  rw [if_pos ⟨h1, h2⟩, h3]
theorem test_lt {b : Book} {s : Nat} (h : WF b) (s1 : 1 ≤ s) (s3 : s ≤ 3) {t : Row} {m : Meet} (ht : t ∈ tests b) (hm : m ∈ M b.1 s) : ∀ p ∈ m, p.1 < t.length := by
  rw [rows_mem_len b.1 t (List.mem_filter.mp ht).1]
  exact (mf_of h.wl s1 s3).lt m (MF.memM hm)
theorem eq_same {n : Nat} {a : D} (h : Nm n a) (hn : n ≤ 64) : eqD a a = some (.bool true) := eqD_nm (P := True) h h hn hn (by simp)
theorem ne_same {n : Nat} {a : D} (h : Nm n a) (hn : n ≤ 64) : neD a a = some (.bool false) := neD_nm (P := True) h h hn hn (by simp)
section
open DM
variable {b : Book} {s : Nat}
theorem m_meetings_at (h : WF b) (s1 : 1 ≤ s) (s3 : s ≤ 3) (x : Option B) (ρ : List (Option B)) : callR 2 f_meetings_of (asCons (op2 ixD (rdB 0) (kst (.int 0))) (asCons (rd 1) asNil)) (some (.d (eB b)) :: some (.d (.int (s : Int))) :: ρ) = .ok (.list ((M b.1 s).map eM)) := by
  have e : ixD (eB b) (.int 0) = some (eR b.1) := by simp [eB]
  simp only [callR_ap, asCons_ap, asNil_ap, op2_ap, rdB_ap, rd_ap, kst_ap, List.getElem?_cons_succ, List.getElem?_cons_zero, Res.bind_ok, Res.map_ok, e, Res.of_some, List.length_cons, List.length_nil, Nat.zero_add, Nat.reduceAdd, if_true, m_meetings_of h.wl s1 s3, res_ro]
theorem m_all_meetings (h : WF b) (s1 : 1 ≤ s) (s3 : s ≤ 3) (sl : s ≤ b.1.length) : f_all_meetings [eB b, .int (s : Int)] = .ro ((M b.1 s).map eM) := by
  unfold f_all_meetings
  rw [runD_eq]
  show ofS (g_all_meetings [some (.d (eB b)), some (.d (.int (s : Int)))]) = _
  unfold g_all_meetings
  have e : ixD (eB b) (.int 0) = some (eR b.1) := by simp [eB]
  simp only [seqS_ap, dropS_ap, thenS_ap, retO_ap, callR_ap, callO_ap, asCons_ap, asNil_ap, op2_ap, rdB_ap, rd_ap, kst_ap, List.getElem?_cons_succ, List.getElem?_cons_zero, Res.bind_ok, Res.map_ok, e, Res.of_some, List.length_cons, List.length_nil, Nat.zero_add, Nat.reduceAdd, if_true, m_meetings_of h.wl s1 s3, res_rt, own_ro, m_look_strength h s1 s3 sl, ofS_ro]
theorem m_possible_of (h : WF b) (s1 : 1 ≤ s) (s3 : s ≤ 3) : f_possible_of [eB b, .int (s : Int)] = .ro ((poss b s).map eM) := by
  have e1 : ∀ m ∈ M b.1 s, g_possible_of_c2 [some (.d (eB b)), some (.d (.int (s : Int))), some (.d (.list ((tests b).map eR))), some (.d (eM m)), none] = .ok ((tests b).any fun t => meets t m) := by
    intro m hm
    have e := lc_map (fi := toSeq (rdB 2)) (t := tgName 4) (c := g_possible_of_c1) (e := rd 4) (vs := [4]) (ρ := [some (.d (eB b)), some (.d (.int (s : Int))), some (.d (.list ((tests b).map eR))), some (.d (eM m)), none]) (enc := eR) (p := fun t => meets t m) (g := eR) (tests b) rfl
      fun t ht => ⟨[some (.d (eB b)), some (.d (.int (s : Int))), some (.d (.list ((tests b).map eR))), some (.d (eM m)), some (.d (eR t))], rfl, by simp [g_possible_of_c1, m_meets (test_lt h s1 s3 ht hm)], fun _ => rfl⟩
    unfold g_possible_of_c2
    simp only [toTru_ap, frz_ap, e, Res.map_ok, Res.bind_ok, truD_list, Res.of_some, isEmpty_map, filter_empty]
  have e2 := lc_map (fi := toSeq (callR 2 f_meetings_of (asCons (op2 ixD (rdB 0) (kst (.int 0))) (asCons (rd 1) asNil)))) (t := tgName 3) (c := g_possible_of_c2) (e := rd 3) (vs := [3]) (ρ := [some (.d (eB b)), some (.d (.int (s : Int))), some (.d (.list ((tests b).map eR))), none, none]) (enc := eM) (p := fun m => (tests b).any fun t => meets t m) (g := eM) (M b.1 s)
    (by rw [toSeq_ap, m_meetings_at h s1 s3 none]; rfl) fun m hm => ⟨_, rfl, e1 m hm, fun _ => rfl⟩
  unfold f_possible_of
  rw [runD_eq]
  show ofS (g_possible_of [some (.d (eB b)), some (.d (.int (s : Int))), none, none, none]) = _
  unfold g_possible_of
  simp only [seqS_ap, setS_ap, thenS_ap, retO_ap, callR_ap 1, asCons_ap, asNil_ap, rd_ap, List.getElem?_cons_succ, List.getElem?_cons_zero, Res.bind_ok, Res.map_ok, List.length_cons, List.length_nil, Nat.zero_add, if_true, m_tests_of h, res_ro, List.set_cons_succ, List.set_cons_zero, e2, ofS_ro]
  rfl
theorem m_possible (h : WF b) (s1 : 1 ≤ s) (s3 : s ≤ 3) (sl : s ≤ b.1.length) : f_possible [eB b, .int (s : Int)] = .ro ((poss b s).map eM) := by
  unfold f_possible
  rw [runD_eq]
  show ofS (g_possible [some (.d (eB b)), some (.d (.int (s : Int)))]) = _
  unfold g_possible
  simp only [seqS_ap, dropS_ap, thenS_ap, retO_ap, callR_ap, callO_ap, asCons_ap, asNil_ap, rd_ap, List.getElem?_cons_succ, List.getElem?_cons_zero, Res.bind_ok, Res.map_ok, List.length_cons, List.length_nil, Nat.zero_add, Nat.reduceAdd, if_true, m_possible_of h s1 s3, res_rt, own_ro, m_look_strength h s1 s3 sl, ofS_ro]
theorem m_impossible (h : WF b) (s1 : 1 ≤ s) (s3 : s ≤ 3) (sl : s ≤ b.1.length) : f_impossible [eB b, .int (s : Int)] = .ro ((imposs b s).map eM) := by
  have e2 := lc_map (fi := toSeq (callR 2 f_meetings_of (asCons (op2 ixD (rdB 0) (kst (.int 0))) (asCons (rd 1) asNil)))) (t := tgName 3) (c := g_impossible_c1) (e := rd 3) (vs := [3]) (ρ := [some (.d (eB b)), some (.d (.int (s : Int))), some (.d (.list ((poss b s).map eM))), none]) (enc := eM) (p := fun m => !(poss b s).contains m) (g := eM) (M b.1 s)
    (by rw [toSeq_ap, m_meetings_at h s1 s3 none]; rfl) fun m hm => ⟨[some (.d (eB b)), some (.d (.int (s : Int))), some (.d (.list ((poss b s).map eM))), some (.d (eM m))], rfl, by
      unfold g_impossible_c1
      simp only [toB_ap, op2_ap, rdB_ap, List.getElem?_cons_succ, List.getElem?_cons_zero, Res.bind_ok, in_M, Res.of_some, boolD_bool, Bool.true_xor], fun _ => rfl⟩
  unfold f_impossible
  rw [runD_eq]
  show ofS (g_impossible [some (.d (eB b)), some (.d (.int (s : Int))), none, none]) = _
  unfold g_impossible
  have e3 : ∀ ρ : List (Option B), callR 2 f_look_strength (asCons (rd 0) (asCons (rd 1) asNil)) (some (.d (eB b)) :: some (.d (.int (s : Int))) :: ρ) = .ok .none := by
    intro ρ
    simp only [callR_ap, asCons_ap, asNil_ap, rd_ap, List.getElem?_cons_succ, List.getElem?_cons_zero, Res.bind_ok, Res.map_ok, List.length_cons, List.length_nil, Nat.zero_add, Nat.reduceAdd, if_true, m_look_strength h s1 s3 sl, res_rt]
  have e4 : ∀ ρ : List (Option B), callR 2 f_possible_of (asCons (rd 0) (asCons (rd 1) asNil)) (some (.d (eB b)) :: some (.d (.int (s : Int))) :: ρ) = .ok (.list ((poss b s).map eM)) := by
    intro ρ
    simp only [callR_ap, asCons_ap, asNil_ap, rd_ap, List.getElem?_cons_succ, List.getElem?_cons_zero, Res.bind_ok, Res.map_ok, List.length_cons, List.length_nil, Nat.zero_add, Nat.reduceAdd, if_true, m_possible_of h s1 s3, res_ro]
  simp only [seqS_ap, dropS_ap, setS_ap, thenS_ap, retO_ap, e3, e4, List.set_cons_succ, List.set_cons_zero, e2, ofS_ro]
  rfl
theorem m_l_possible (h : WF b) (s1 : 1 ≤ s) (s3 : s ≤ 3) : f_l_possible [eB b, .int (s : Int)] = .ro ((poss b s).map eM) := by
  have hlen : (M b.1 s).length ≤ 200 := by
    have := (mf_of h.wl s1 s3).few
    unfold M
    rw [List.length_mergeSort]
    exact this
  have loop : ∃ ρ', forL (tgName 4) g_l_possible_b1 ((M b.1 s).map eM) [some (.d (eB b)), some (.d (.int (s : Int))), some (.d (.list ((tests b).map eR))), some (.own []), none, none] = .nx ρ' ∧
      ∃ y, ρ' = [some (.d (eB b)), some (.d (.int (s : Int))), some (.d (.list ((tests b).map eR))), some (.own (((M b.1 s).filter fun m => (tests b).any fun t => meets t m).map eM)), y, none] := by
    refine forL_inv (fun d ρ => ∃ y, ρ = [some (.d (eB b)), some (.d (.int (s : Int))), some (.d (.list ((tests b).map eR))), some (.own ((d.filter fun m => (tests b).any fun t => meets t m).map eM)), y, none]) (M b.1 s) ?_ ⟨none, rfl⟩
    rintro d m r ρ e ⟨y, rfl⟩
    have hm : m ∈ M b.1 s := by rw [e]; simp
    have e1 := lc_map (fi := toSeq (rdB 2)) (t := tgName 5) (c := g_l_possible_c1) (e := rd 5) (vs := [5]) (ρ := [some (.d (eB b)), some (.d (.int (s : Int))), some (.d (.list ((tests b).map eR))), some (.own ((d.filter fun m => (tests b).any fun t => meets t m).map eM)), some (.d (eM m)), none]) (enc := eR) (p := fun t => meets t m) (g := eR) (tests b) rfl
      fun t ht => ⟨[some (.d (eB b)), some (.d (.int (s : Int))), some (.d (.list ((tests b).map eR))), some (.own ((d.filter fun m => (tests b).any fun t => meets t m).map eM)), some (.d (eM m)), some (.d (eR t))], rfl, by simp [g_l_possible_c1, m_l_meets (test_lt h s1 s3 ht hm)], fun _ => rfl⟩
    have q := neD_nm (P := ¬ (tests b).any (fun t => meets t m) = true) (nmRs ((tests b).filter fun t => meets t m)) nmNil (by decide) (by decide) (by rw [← filter_nil_any]; simp)
    have hz : (d.filter fun m => (tests b).any fun t => meets t m).length < sizeLine := by
      have h1 := List.length_filter_le (fun m => (tests b).any fun t => meets t m) d
      have := sizeLine_big
      rw [e, List.length_append] at hlen
      omega
    refine ⟨_, [some (.d (eB b)), some (.d (.int (s : Int))), some (.d (.list ((tests b).map eR))), some (.own (((d ++ [m]).filter fun m => (tests b).any fun t => meets t m).map eM)), some (.d (eM m)), none], rfl, ?_, _, rfl⟩
    show g_l_possible_b1 [some (.d (eB b)), some (.d (.int (s : Int))), some (.d (.list ((tests b).map eR))), some (.own ((d.filter fun m => (tests b).any fun t => meets t m).map eM)), some (.d (eM m)), none] = _
    unfold g_l_possible_b1
    simp only [ifS_ap, thenS_ap, toB_ap, op2_ap, frz_ap, e1, Res.map_ok, Res.bind_ok, disp_ap, asNil_ap, List.length_nil, Nat.zero_le, if_true, q, Res.of_some, boolD_bool]
    rw [List.filter_append]
    cases ha : (tests b).any (fun t => meets t m) with
    | false => simp [ha]
    | true =>
      rw [appS_own (xs := (d.filter fun m => (tests b).any fun t => meets t m).map eM) _ rfl]
      simp [ha, hz]
  obtain ⟨ρ', h1, y, rfl⟩ := loop
  unfold f_l_possible
  rw [runD_eq]
  show ofS (g_l_possible [some (.d (eB b)), some (.d (.int (s : Int))), none, none, none, none]) = _
  have e3 : ∀ ρ : List (Option B), callR 2 f_l_meetings (asCons (rd 0) (asCons (rd 1) asNil)) (some (.d (eB b)) :: some (.d (.int (s : Int))) :: ρ) = .ok (.list ((M b.1 s).map eM)) := by
    intro ρ
    simp only [callR_ap, asCons_ap, asNil_ap, rd_ap, List.getElem?_cons_succ, List.getElem?_cons_zero, Res.bind_ok, Res.map_ok, List.length_cons, List.length_nil, Nat.zero_add, Nat.reduceAdd, if_true, m_l_meetings h s1 s3, res_ro]
  have e4 : ∀ ρ : List (Option B), callR 1 f_l_tests (asCons (rd 0) asNil) (some (.d (eB b)) :: ρ) = .ok (.list ((tests b).map eR)) := by
    intro ρ
    simp only [callR_ap, asCons_ap, asNil_ap, rd_ap, List.getElem?_cons_zero, Res.bind_ok, Res.map_ok, List.length_cons, List.length_nil, Nat.zero_add, if_true, m_l_tests h, res_ro]
  unfold g_l_possible
  simp only [seqS_ap, setS_ap, setO_ap, forS_ap, thenS_ap, toSeq_ap, disp_ap, asNil_ap, e3, e4, Res.bind_ok, List.length_nil, Nat.zero_le, if_true, List.set_cons_succ, List.set_cons_zero, seqOf_list, Res.of_some, h1, retV_ap, List.getElem?_cons_succ, List.getElem?_cons_zero, ofS_ro]
  rfl
end
end DL

/-! The plain part, 12: each meeting within the levels is among them. -/
namespace DL
open PySem PySem.Spec PyProof.Rows L2
theorem mrows_mem {lv : List Nat} : ∀ m : Meet, (∀ p ∈ m, p.2 < lv.getD p.1 0) → m ∈ meetRows lv (m.map (·.1)) := by
  intro m
  suffices ∀ r : Meet, (∀ p ∈ r.reverse, p.2 < lv.getD p.1 0) → r.reverse ∈ meetRows lv (r.reverse.map (·.1)) by simpa using this m.reverse
  intro r
  induction r with
  | nil => intro _; simp [meetRows]
  | cons p r ih =>
    intro h
    rw [List.reverse_cons] at h ⊢
    have h1 := ih fun q hq => h q (by simp at hq ⊢; exact .inl hq)
    have h2 := h p (by simp)
    rw [List.map_append, show [p].map (·.1) = [p.1] from rfl, mrows_snoc]
    unfold meetStep
    refine List.mem_flatMap.mpr ⟨_, h1, List.mem_map.mpr ⟨p.2, List.mem_range.mpr h2, rfl⟩⟩
theorem chosen_mem {many : Nat} : ∀ (ts : List Nat) (least : Nat), (∀ t ∈ ts, least ≤ t ∧ t < many) → ts.Pairwise (· < ·) → ts ∈ chosenM many least ts.length
  | [], _, _, _ => by simp [chosenM]
  | t :: ts, least, h, hp => by
    have h1 := h t List.mem_cons_self
    rw [List.pairwise_cons] at hp
    have ih := chosen_mem ts (t + 1) (fun x hx => ⟨hp.1 x hx, (h x (List.mem_cons_of_mem _ hx)).2⟩) hp.2
    rw [List.length_cons]
    unfold chosenM
    refine List.mem_flatMap.mpr ⟨t, ?_, List.mem_map.mpr ⟨ts, ih, rfl⟩⟩
    rw [List.mem_range'_1]
    omega
theorem mem_M {lv : List Nat} {m : Meet} (h : IsMeet lv m) : m ∈ M lv m.length := by
  unfold M allM
  refine List.mem_mergeSort.mpr (List.mem_flatMap.mpr ⟨m.map (·.1), ?_, mrows_mem m fun p hp => ?_⟩)
  · have := chosen_mem (many := lv.length) (m.map (·.1)) 0 (fun t ht => by
      obtain ⟨p, hp, rfl⟩ := List.mem_map.mp ht
      exact ⟨Nat.zero_le _, h.lt p hp⟩) (List.pairwise_map.mpr h.inc)
    rw [List.length_map] at this
    exact this
  · obtain ⟨l, e, hl⟩ := h.at_ p hp
    rw [List.getD_eq_getElem?_getD, e]
    exact hl
theorem rows_at {lv : List Nat} : ∀ r ∈ rows lv, ∀ i (h : i < r.length), ∃ l, lv[i]? = some l ∧ r[i] < l := by
  induction lv using rows_ind with
  | h0 =>
    intro r hr i h
    simp [rows] at hr
    subst hr
    simp at h
  | hs lv l ih =>
    intro r hr i h
    rw [rows_snoc] at hr
    unfold stepRows at hr
    simp only [List.mem_flatMap, List.mem_map, List.mem_range] at hr
    obtain ⟨r0, h0, s, hs, rfl⟩ := hr
    have hl0 := rows_mem_len lv r0 h0
    by_cases hi : i < r0.length
    · obtain ⟨l', e, hl'⟩ := ih r0 h0 i hi
      refine ⟨l', ?_, ?_⟩
      · rw [List.getElem?_append_left (by omega)]
        exact e
      · rw [List.getElem_append_left hi]
        exact hl'
    · have hi' : i = r0.length := by
        rw [List.length_append, List.length_singleton] at h
        omega
      subst hi'
      refine ⟨l, ?_, ?_⟩
      · rw [List.getElem?_append_right (by omega), hl0, Nat.sub_self]
        rfl
      · simp
        exact hs
/-- a row as a meeting -/
def asMeet (r : Row) : Meet := r.zipIdx.map fun p => (p.2, p.1)
theorem asMeet_mem {r : Row} {p : Nat × Nat} : p ∈ asMeet r ↔ r[p.1]? = some p.2 := by
  unfold asMeet
  rw [List.mem_map]
  constructor
  · rintro ⟨q, hq, rfl⟩
    have := List.mem_zipIdx_iff_getElem?.mp hq
    exact this
  · intro h
    exact ⟨(p.2, p.1), List.mem_zipIdx_iff_getElem?.mpr h, rfl⟩
theorem meets_iff {t : Row} {m : Meet} : meets t m = true ↔ ∀ p ∈ m, t[p.1]? = some p.2 := by simp [meets]
theorem meets_sub {t : Row} {m : Meet} : meets t m = true ↔ ∀ p ∈ m, p ∈ asMeet t := by
  rw [meets_iff]
  exact ⟨fun h p hp => asMeet_mem.mpr (h p hp), fun h p hp => asMeet_mem.mp (h p hp)⟩
theorem asMeet_len (r : Row) : (asMeet r).length = r.length := by simp [asMeet]
theorem asMeet_is {lv : List Nat} {r : Row} (hr : r ∈ rows lv) (h1 : 1 ≤ lv.length) (h3 : lv.length ≤ 3) : IsMeet lv (asMeet r) := by
  have hl := rows_mem_len lv r hr
  refine ⟨by rw [asMeet_len, hl]; exact h1, by rw [asMeet_len, hl]; exact h3, ?_, fun p hp => ?_⟩
  · unfold asMeet
    rw [List.pairwise_map]
    have : (r.zipIdx.map (·.2)).Pairwise (· < ·) := by
      rw [List.zipIdx_map_snd]
      exact List.pairwise_lt_range'
    exact List.pairwise_map.mp this
  · have h := asMeet_mem.mp hp
    obtain ⟨hi, e⟩ := List.getElem?_eq_some_iff.mp h
    obtain ⟨l, e2, h2⟩ := rows_at r hr p.1 hi
    exact ⟨l, e2, by rw [e] at h2; exact h2⟩
theorem meets_self {r t : Row} (hl : r.length = t.length) (h : meets t (asMeet r) = true) : r = t := by
  apply List.ext_getElem hl
  intro i h1 h2
  have := meets_iff.mp h (i, r[i]) (asMeet_mem.mpr (List.getElem?_eq_getElem h1))
  rw [List.getElem?_eq_getElem h2] at this
  exact (Option.some.inj this).symm
theorem poss_iff {b : Book} {s : Nat} {m : Meet} : m ∈ poss b s ↔ m ∈ M b.1 s ∧ ∃ t ∈ tests b, meets t m = true := by simp [poss]
theorem imposs_iff {b : Book} {s : Nat} {m : Meet} : m ∈ imposs b s ↔ m ∈ M b.1 s ∧ ∀ t ∈ tests b, meets t m = false := by
  simp only [imposs, List.mem_filter, Bool.not_eq_true', List.contains_eq_mem, decide_eq_false_iff_not, poss_iff, not_and, not_exists, and_imp]
  constructor
  · rintro ⟨h1, h2⟩
    exact ⟨h1, fun t ht => by simpa using h2 h1 t ht⟩
  · rintro ⟨h1, h2⟩
    exact ⟨h1, fun _ t ht => by rw [h2 t ht]; simp⟩
end DL

/-! The plain part, 13: whole bans. -/
namespace DL
open PySem PySem.Spec PyProof.Rows L2
theorem in_g {α : Type} {enc : α → D} {n : Nat} (hn : ∀ x, Nm n (enc x)) (h60 : n + 1 ≤ 64) (hi : ∀ x y, enc x = enc y → x = y) [BEq α] [LawfulBEq α] (neg : Bool) (m : α) (ms : List α) :
    inD neg (enc m) (.list (ms.map enc)) = some (.bool (neg ^^ ms.contains m)) ∧ inD neg (enc m) (.tuple (ms.map enc)) = some (.bool (neg ^^ ms.contains m)) := by
  have h1 : SeqAt.shaped (enc m) = true := (hn m).shaped (by omega)
  have hx : ∀ x ∈ ms.map enc, Nm n x := fun x hx => by
    obtain ⟨y, _, rfl⟩ := List.mem_map.mp hx
    exact hn y
  have h2 : SeqAt.shaped (.list (ms.map enc)) = true := (Nm.list hx).shaped h60
  have h2' : SeqAt.shaped (.tuple (ms.map enc)) = true := (Nm.tup hx).shaped h60
  have h3 : ((ms.map enc).any fun y => PyData.eqv y (enc m)) = ms.contains m := by
    rw [List.any_map, Bool.eq_iff_iff]
    simp only [List.any_eq_true, Function.comp, List.contains_iff_mem]
    constructor
    · rintro ⟨x, hx, e⟩
      rw [← hi _ _ ((eqv_nums _ _ (hn x).1 (hn m).1).mp e)]
      exact hx
    · intro h
      exact ⟨m, h, (eqv_nums _ _ (hn m).1 (hn m).1).mpr rfl⟩
  constructor
  · show (if SeqAt.shaped (enc m) = true ∧ SeqAt.shaped (.list (ms.map enc)) = true then some (PyData.bool (neg ^^ (ms.map enc).any fun y => PyData.eqv y (enc m))) else none) = _
    rw [if_pos ⟨h1, h2⟩, h3]
  · show (if SeqAt.shaped (enc m) = true ∧ SeqAt.shaped (.tuple (ms.map enc)) = true then some (PyData.bool (neg ^^ (ms.map enc).any fun y => PyData.eqv y (enc m))) else none) = _
    rw [if_pos ⟨h1, h2'⟩, h3]
theorem in_P (neg : Bool) (p : Nat × Nat) (m : Meet) : inD neg (eP p) (eM m) = some (.bool (neg ^^ m.contains p)) := (in_g nmP (by decide) (fun _ _ => eP_inj) neg p m).2
theorem in_R (neg : Bool) (r : Row) (rs : List Row) : inD neg (eR r) (.list (rs.map eR)) = some (.bool (neg ^^ rs.contains r)) := (in_g nmR (by decide) (fun _ _ => eR_inj) neg r rs).1
theorem eqD_bool (a b : Bool) : eqD (.bool a) (.bool b) = some (.bool (a == b)) := by
  have h : ∀ c : Bool, SeqAt.shaped (.bool c) = true := fun c => by simp [SeqAt.shaped, PyData.canLay0, PyData.depth]
  unfold eqD
  rw [if_pos ⟨h a, h b⟩]
  simp [PyData.eqv]
/-- the one lies in the other -/
def inside (o m : Meet) : Bool := o.all fun p => m.contains p
theorem inside_iff {o m : Meet} : inside o m = true ↔ ∀ p ∈ o, p ∈ m := by simp [inside]
def wStep (f : List Meet) (m : Meet) : List Meet := if (f.any fun o => inside o m) = true then f else f ++ [m]
def whole (xs : List Meet) : List Meet := xs.foldl wStep []
theorem whole_snoc (xs : List Meet) (m : Meet) : whole (xs ++ [m]) = wStep (whole xs) m := by simp [whole, List.foldl_append]
theorem meet_ind {P : List Meet → Prop} (h0 : P []) (hs : ∀ xs m, P xs → P (xs ++ [m])) (xs : List Meet) : P xs := by
  suffices ∀ r : List Meet, P r.reverse by simpa using this xs.reverse
  intro r
  induction r with
  | nil => exact h0
  | cons l r ih => rw [List.reverse_cons]; exact hs _ _ ih
theorem whole_len (xs : List Meet) : (whole xs).length ≤ xs.length := by
  induction xs using meet_ind with
  | h0 => simp [whole]
  | hs xs m ih =>
    rw [whole_snoc]
    unfold wStep
    split
    · simp; omega
    · simp; omega
theorem whole_mem (xs : List Meet) : ∀ m ∈ whole xs, m ∈ xs := by
  induction xs using meet_ind with
  | h0 => simp [whole]
  | hs xs m ih =>
    intro x hx
    rw [whole_snoc] at hx
    unfold wStep at hx
    split at hx
    · simp [ih x hx]
    · rcases List.mem_append.mp hx with hx | hx
      · simp [ih x hx]
      · simp [List.mem_singleton.mp hx]
theorem whole_has (xs : List Meet) : ∀ m ∈ xs, ∃ o ∈ whole xs, inside o m = true := by
  induction xs using meet_ind with
  | h0 => simp
  | hs xs m ih =>
    intro x hx
    rw [whole_snoc]
    unfold wStep
    rcases List.mem_append.mp hx with hx | hx
    · obtain ⟨o, ho, h⟩ := ih x hx
      refine ⟨o, ?_, h⟩
      split
      · exact ho
      · simp [ho]
    · rw [List.mem_singleton.mp hx]
      split
      · rename_i h
        obtain ⟨o, ho, h⟩ := List.any_eq_true.mp h
        exact ⟨o, ho, h⟩
      · exact ⟨m, by simp, inside_iff.mpr fun p hp => hp⟩
/-- all that is impossible, of up to n things -/
def imps (b : Book) (ks : List Nat) : List Meet := ks.flatMap fun k => imposs b (1 + k)
theorem imposs_len {b : Book} (h : WF b) {s : Nat} (s1 : 1 ≤ s) (s3 : s ≤ 3) : (imposs b s).length ≤ 200 := by
  have h1 := List.length_filter_le (fun m => !(poss b s).contains m) (M b.1 s)
  have h2 := (mf_of h.wl s1 s3).few
  have h3 : (M b.1 s).length = (allM b.1 s).length := List.length_mergeSort _
  unfold imposs
  omega
theorem imps_len {b : Book} (h : WF b) (ks : List Nat) (hk : ∀ k ∈ ks, k < 3) : (imps b ks).length ≤ 200 * ks.length := by
  induction ks with
  | nil => simp [imps]
  | cons k ks ih =>
    have h1 := ih fun x hx => hk x (List.mem_cons_of_mem _ hx)
    have h2 := imposs_len h (s := 1 + k) (by omega) (by have := hk k List.mem_cons_self; omega)
    unfold imps at h1 ⊢
    rw [List.flatMap_cons, List.length_append, List.length_cons]
    omega
theorem upTo_1 (n : Nat) : upTo 1 n = (List.range n).map fun k => eN (1 + k) := by
  unfold upTo
  apply List.map_congr_left
  intro k _
  simp [eN]
theorem rng2_1 {n : Nat} (h : n ≤ 1000) : rng2 [.int 1, .int ((n : Int) + 1)] = some ((List.range n).map fun k => eN (1 + k)) := by
  rw [rng2_int, smallR_of (by omega) (by omega), smallR_of (by omega) (by omega)]
  simp only [Bool.and_self, if_true]
  rw [show ((n : Int) + 1 - 1).toNat = n by omega, upTo_1]
section
open DM
theorem m_look1 {b : Book} (h : WF b) : f_look_strength [eB b, .int 1] = .rt .none := m_look_strength h (s := 1) (by decide) (by decide) h.wl.lo
theorem c2_whole {b : Book} {f : List Meet} {o m : Meet} {x2 x5 : Option B} : g_whole_bans_c2 [some (.d (eB b)), some (.own (f.map eM)), x2, some (.d (eM m)), some (.d (eM o)), x5] = .ok (inside o m) := by
  have e := lc_map (fi := toSeq (rdB 4)) (t := tgName 5) (c := g_whole_bans_c1) (e := rd 5) (vs := [5]) (ρ := [some (.d (eB b)), some (.own (f.map eM)), x2, some (.d (eM m)), some (.d (eM o)), x5]) (enc := eP) (p := fun p => !m.contains p) (g := eP) o rfl
    fun p hp => ⟨[some (.d (eB b)), some (.own (f.map eM)), x2, some (.d (eM m)), some (.d (eM o)), some (.d (eP p))], rfl, by
      unfold g_whole_bans_c1
      simp only [toB_ap, op2_ap, rdB_ap, List.getElem?_cons_succ, List.getElem?_cons_zero, Res.bind_ok, in_P, Res.of_some, boolD_bool, Bool.true_xor], fun _ => rfl⟩
  unfold g_whole_bans_c2
  simp only [notT_ap, toTru_ap, frz_ap, e, Res.map_ok, Res.bind_ok, truD_list, Res.of_some, isEmpty_map, filter_empty]
  congr 1
  rw [Bool.eq_iff_iff]
  simp [inside]
theorem b1_whole {b : Book} {f : List Meet} {m : Meet} {x2 : Option B} (hz : f.length ≤ 1000) : g_whole_bans_b1 [some (.d (eB b)), some (.own (f.map eM)), x2, some (.d (eM m)), none, none] = .nx [some (.d (eB b)), some (.own ((wStep f m).map eM)), x2, some (.d (eM m)), none, none] := by
  have e := lc_map (fi := toSeq (rdB 1)) (t := tgName 4) (c := g_whole_bans_c2) (e := rd 4) (vs := [4]) (ρ := [some (.d (eB b)), some (.own (f.map eM)), x2, some (.d (eM m)), none, none]) (enc := eM) (p := fun o => inside o m) (g := eM) f rfl
    fun o ho => ⟨[some (.d (eB b)), some (.own (f.map eM)), x2, some (.d (eM m)), some (.d (eM o)), none], rfl, c2_whole, fun _ => rfl⟩
  have hz' : f.length < sizeLine := by have := sizeLine_big; omega
  unfold g_whole_bans_b1
  simp only [ifS_ap, thenS_ap, notT_ap, toTru_ap, frz_ap, e, Res.map_ok, Res.bind_ok, truD_list, Res.of_some, isEmpty_map, filter_empty]
  unfold wStep
  cases hf : f.any (fun o => inside o m) with
  | true => simp
  | false =>
    rw [appS_own (xs := f.map eM) _ rfl]
    simp [hz']
theorem m_whole_bans {b : Book} (h : WF b) : f_whole_bans [eB b] = .ro ((whole (imps b (List.range (min 3 b.1.length)))).map eM) := by
  have inner : ∀ (pre : List Meet) (s : Nat) (x2 : Option B), 1 ≤ s → s ≤ 3 → s ≤ b.1.length → pre.length ≤ 600 → ∀ y, ∃ ρ', forL (tgName 3) g_whole_bans_b1 ((imposs b s).map eM) [some (.d (eB b)), some (.own ((whole pre).map eM)), x2, y, none, none] = .nx ρ' ∧
      ∃ y, ρ' = [some (.d (eB b)), some (.own ((whole (pre ++ imposs b s)).map eM)), x2, y, none, none] := by
    intro pre s x2 s1 s3 sl hp y
    refine forL_inv (fun d ρ => ∃ y, ρ = [some (.d (eB b)), some (.own ((whole (pre ++ d)).map eM)), x2, y, none, none]) (imposs b s) ?_ ⟨y, by rw [List.append_nil]⟩
    rintro d m r ρ e ⟨y, rfl⟩
    have hl := imposs_len h s1 s3
    rw [e, List.length_append] at hl
    have h2 := whole_len (pre ++ d)
    rw [List.length_append] at h2
    refine ⟨_, _, rfl, b1_whole (by omega), some (.d (eM m)), ?_⟩
    rw [← List.append_assoc, whole_snoc]
  have outer : ∃ ρ', forL (tgName 2) g_whole_bans_b2 ((List.range (min 3 b.1.length)).map fun k => eN (1 + k)) [some (.d (eB b)), some (.own []), none, none, none, none] = .nx ρ' ∧
      ∃ x y, ρ' = [some (.d (eB b)), some (.own ((whole (imps b (List.range (min 3 b.1.length)))).map eM)), x, y, none, none] := by
    refine forL_inv (fun d ρ => ∃ x y, ρ = [some (.d (eB b)), some (.own ((whole (imps b d)).map eM)), x, y, none, none]) (List.range (min 3 b.1.length)) ?_ ⟨none, none, rfl⟩
    rintro d k r ρ e ⟨x, y, rfl⟩
    have hk : k < min 3 b.1.length := List.mem_range.mp (by rw [e]; simp)
    have hd : ∀ j ∈ d, j < 3 := fun j hj => by
      have : j < min 3 b.1.length := List.mem_range.mp (by rw [e]; simp [hj])
      omega
    have hdl : d.length ≤ 3 := by
      have := congrArg List.length e
      rw [List.length_range, List.length_append] at this
      omega
    have hp := imps_len h d hd
    obtain ⟨ρ', h1, y', rfl⟩ := inner (imps b d) (1 + k) (some (.d (eN (1 + k)))) (by omega) (by omega) (by omega) (by omega) y
    refine ⟨_, [some (.d (eB b)), some (.own ((whole (imps b (d ++ [k]))).map eM)), some (.d (eN (1 + k))), y', none, none], rfl, ?_, _, _, rfl⟩
    show g_whole_bans_b2 [some (.d (eB b)), some (.own ((whole (imps b d)).map eM)), some (.d (eN (1 + k))), y, none, none] = _
    have e3 : callR 2 f_impossible (asCons (rd 0) (asCons (rd 2) asNil)) [some (.d (eB b)), some (.own ((whole (imps b d)).map eM)), some (.d (eN (1 + k))), y, none, none] = .ok (.list ((imposs b (1 + k)).map eM)) := by
      have := m_impossible h (s := 1 + k) (by omega) (by omega) (by omega)
      rw [show eN (1 + k) = .int ((1 + k : Nat) : Int) from rfl]
      simp only [callR_ap, asCons_ap, asNil_ap, rd_ap, List.getElem?_cons_succ, List.getElem?_cons_zero, Res.bind_ok, Res.map_ok, List.length_cons, List.length_nil, Nat.zero_add, Nat.reduceAdd, if_true, this, res_ro]
    unfold g_whole_bans_b2
    simp only [forS_ap, thenS_ap, toSeq_ap, e3, Res.bind_ok, seqOf_list, Res.of_some, h1]
    rw [show imps b (d ++ [k]) = imps b d ++ imposs b (1 + k) by simp [imps]]
  obtain ⟨ρ', h1, x, y, rfl⟩ := outer
  have hmin : minD [.int 3, .int (b.1.length : Int)] = some (.int ((min 3 b.1.length : Nat) : Int)) := by
    rw [minD_int]
    congr 2
    split <;> omega
  have hl : ixD (eB b) (.int 0) = some (eR b.1) := by simp [eB]
  have hn : lenD [eR b.1] = some (.int (b.1.length : Int)) := by simp [eR]
  have hr := rng2_1 (n := min 3 b.1.length) (by omega)
  unfold f_whole_bans
  rw [runD_eq]
  show ofS (g_whole_bans [some (.d (eB b)), none, none, none, none, none]) = _
  unfold g_whole_bans
  simp only [seqS_ap, dropS_ap, setO_ap, forS_ap, thenS_ap, disp_ap, callR_ap, cb_ap, op2_ap, asCons_ap, asNil_ap, rd_ap, rdB_ap, kst_ap, List.getElem?_cons_succ, List.getElem?_cons_zero, Res.bind_ok, Res.map_ok, List.length_cons, List.length_nil, Nat.zero_add, Nat.reduceAdd, Nat.zero_le, if_true, m_look1 h, res_rt, List.set_cons_succ, List.set_cons_zero, hl, hn, hmin, addD_int, hr, Res.of_some, h1, retV_ap, ofS_ro]
end
end DL

/-! The plain part, 14: covers. -/
namespace DL
open PySem PySem.Spec PyProof.Rows L2
def unmetM (ms : List Meet) (ts : List Row) : List Meet := ms.filter fun m => !(ts.any fun t => meets t m)
/-- rows of n, meetings within n -/
structure Fit (n : Nat) (ms : List Meet) (ts : List Row) : Prop where
  len : ∀ t ∈ ts, t.length = n
  lt : ∀ m ∈ ms, ∀ p ∈ m, p.1 < n
  few : ms.length ≤ 200
  ft : ts.length ≤ 10000
theorem Fit.at {n : Nat} {ms : List Meet} {ts : List Row} (h : Fit n ms ts) : ∀ t ∈ ts, ∀ m ∈ ms, ∀ p ∈ m, p.1 < t.length := fun t ht m hm p hp => by
  rw [h.len t ht]
  exact h.lt m hm p hp
theorem Fit.sub {n : Nat} {ms : List Meet} {ts ts' : List Row} (h : Fit n ms ts) (e : ∀ t ∈ ts', t ∈ ts) (hl : ts'.length ≤ 10000) : Fit n ms ts' := ⟨fun t ht => h.len t (e t ht), h.lt, h.few, hl⟩
theorem Fit.erase {n : Nat} {ms : List Meet} {ts : List Row} (h : Fit n ms ts) (i : Nat) : Fit n ms (ts.eraseIdx i) := h.sub (fun t ht => List.mem_of_mem_eraseIdx ht) (Nat.le_trans (by have := List.length_eraseIdx_le ts i; omega) h.ft)
theorem unmet_sub {ms : List Meet} {ts : List Row} : ∀ m ∈ unmetM ms ts, m ∈ ms := fun m hm => (List.mem_filter.mp hm).1
theorem eqMs (a b : List Meet) : eqD (.list (a.map eM)) (.list (b.map eM)) = some (.bool (decide (a = b))) :=
  eqD_nm (nmMs a) (nmMs b) (by decide) (by decide) ⟨fun e => map_inj (fun _ _ => eM_inj) (PyData.list.inj e), fun e => by rw [e]⟩
theorem neMs (a b : List Meet) : neD (.list (a.map eM)) (.list (b.map eM)) = some (.bool (!decide (a = b))) :=
  neD_nm (nmMs a) (nmMs b) (by decide) (by decide) ⟨fun e => map_inj (fun _ _ => eM_inj) (PyData.list.inj e), fun e => by rw [e]⟩
theorem eqRs (a b : List Row) : eqD (.list (a.map eR)) (.list (b.map eR)) = some (.bool (decide (a = b))) :=
  eqD_nm (nmRs a) (nmRs b) (by decide) (by decide) ⟨fun e => map_inj (fun _ _ => eR_inj) (PyData.list.inj e), fun e => by rw [e]⟩
theorem neRs (a b : List Row) : neD (.list (a.map eR)) (.list (b.map eR)) = some (.bool (!decide (a = b))) :=
  neD_nm (nmRs a) (nmRs b) (by decide) (by decide) ⟨fun e => map_inj (fun _ _ => eR_inj) (PyData.list.inj e), fun e => by rw [e]⟩
theorem nmNs (a : List Nat) : Nm 1 (.list (a.map eN)) := .list fun x hx => by
  obtain ⟨j, _, rfl⟩ := List.mem_map.mp hx
  exact nmN j
theorem eqNs (a b : List Nat) : eqD (.list (a.map eN)) (.list (b.map eN)) = some (.bool (decide (a = b))) :=
  eqD_nm (nmNs a) (nmNs b) (by decide) (by decide) ⟨fun e => map_inj (fun _ _ => eN_inj.mp) (PyData.list.inj e), fun e => by rw [e]⟩
theorem neNs (a b : List Nat) : neD (.list (a.map eN)) (.list (b.map eN)) = some (.bool (!decide (a = b))) :=
  neD_nm (nmNs a) (nmNs b) (by decide) (by decide) ⟨fun e => map_inj (fun _ _ => eN_inj.mp) (PyData.list.inj e), fun e => by rw [e]⟩
theorem cut_to {xs : List D} {i : Nat} : cutG xs none (some (i : Int)) = xs.take i := by
  unfold cutG
  rw [show HT.sIx xs.length 0 none = 0 from rfl, HT.sIx_nat, List.drop_zero, Nat.sub_zero]
  by_cases h : i ≤ xs.length
  · rw [Nat.min_eq_left h]
  · rw [Nat.min_eq_right (by omega), List.take_of_length_le (Nat.le_refl _), List.take_of_length_le (by omega)]
theorem cut_from {xs : List D} {i : Nat} : cutG xs (some (i : Int)) none = xs.drop i := by
  unfold cutG
  rw [show HT.sIx xs.length xs.length none = xs.length from rfl, HT.sIx_nat]
  by_cases h : i ≤ xs.length
  · rw [Nat.min_eq_left h, List.take_of_length_le (by rw [List.length_drop]; omega)]
  · rw [Nat.min_eq_right (by omega), List.drop_of_length_le (Nat.le_refl _), List.drop_of_length_le (by omega), List.take_nil]
theorem cutD_to (xs : List D) (i : Nat) : cutD (.list xs) none (some (i : Int)) = some (.list (xs.take i)) := by
  show some (PyData.list (cutG xs none (some (i : Int)))) = _
  rw [cut_to]
theorem cutD_from (xs : List D) (i : Nat) : cutD (.list xs) (some (i : Int)) none = some (.list (xs.drop i)) := by
  show some (PyData.list (cutG xs (some (i : Int)) none)) = _
  rw [cut_from]
theorem take_drop_erase {α : Type} (xs : List α) (i : Nat) : xs.take i ++ xs.drop (i + 1) = xs.eraseIdx i := (List.eraseIdx_eq_take_drop_succ xs i).symm
section
open DM
theorem m_unmet {n : Nat} {ms : List Meet} {ts : List Row} (h : Fit n ms ts) : f_unmet [.list (ms.map eM), .list (ts.map eR)] = .ro ((unmetM ms ts).map eM) := by
  have e1 : ∀ m ∈ ms, g_unmet_c2 [some (.d (.list (ms.map eM))), some (.d (.list (ts.map eR))), some (.d (eM m)), none] = .ok (!(ts.any fun t => meets t m)) := by
    intro m hm
    have e := lc_map (fi := toSeq (rdB 1)) (t := tgName 3) (c := g_unmet_c1) (e := rd 3) (vs := [3]) (ρ := [some (.d (.list (ms.map eM))), some (.d (.list (ts.map eR))), some (.d (eM m)), none]) (enc := eR) (p := fun t => meets t m) (g := eR) ts rfl
      fun t ht => ⟨[some (.d (.list (ms.map eM))), some (.d (.list (ts.map eR))), some (.d (eM m)), some (.d (eR t))], rfl, by simp [g_unmet_c1, m_meets (h.at t ht m hm)], fun _ => rfl⟩
    unfold g_unmet_c2
    simp only [notT_ap, toTru_ap, frz_ap, e, Res.map_ok, Res.bind_ok, truD_list, Res.of_some, isEmpty_map, filter_empty]
  have e2 := lc_map (fi := toSeq (rdB 0)) (t := tgName 2) (c := g_unmet_c2) (e := rd 2) (vs := [2]) (ρ := [some (.d (.list (ms.map eM))), some (.d (.list (ts.map eR))), none, none]) (enc := eM) (p := fun m => !(ts.any fun t => meets t m)) (g := eM) ms rfl
    fun m hm => ⟨_, rfl, e1 m hm, fun _ => rfl⟩
  unfold f_unmet
  rw [runD_eq]
  show ofS (g_unmet [some (.d (.list (ms.map eM))), some (.d (.list (ts.map eR))), none, none]) = _
  unfold g_unmet
  simp only [retO_ap, thenS_ap, e2, ofS_ro]
  rfl
theorem m_l_left {n : Nat} {ms : List Meet} {ts : List Row} (h : Fit n ms ts) : f_l_left [.list (ms.map eM), .list (ts.map eR)] = .ro ((unmetM ms ts).map eM) := by
  have loop : ∃ ρ', forL (tgName 3) g_l_left_b1 (ms.map eM) [some (.d (.list (ms.map eM))), some (.d (.list (ts.map eR))), some (.own []), none, none] = .nx ρ' ∧ ∃ y, ρ' = [some (.d (.list (ms.map eM))), some (.d (.list (ts.map eR))), some (.own ((unmetM ms ts).map eM)), y, none] := by
    refine forL_inv (fun d ρ => ∃ y, ρ = [some (.d (.list (ms.map eM))), some (.d (.list (ts.map eR))), some (.own ((unmetM d ts).map eM)), y, none]) ms ?_ ⟨none, rfl⟩
    rintro d m r ρ e ⟨y, rfl⟩
    have hm : m ∈ ms := by rw [e]; simp
    have e1 := lc_map (fi := toSeq (rdB 1)) (t := tgName 4) (c := g_l_left_c1) (e := rd 4) (vs := [4]) (ρ := [some (.d (.list (ms.map eM))), some (.d (.list (ts.map eR))), some (.own ((unmetM d ts).map eM)), some (.d (eM m)), none]) (enc := eR) (p := fun t => meets t m) (g := eR) ts rfl
      fun t ht => ⟨[some (.d (.list (ms.map eM))), some (.d (.list (ts.map eR))), some (.own ((unmetM d ts).map eM)), some (.d (eM m)), some (.d (eR t))], rfl, by simp [g_l_left_c1, m_l_meets (h.at t ht m hm)], fun _ => rfl⟩
    have q := eqD_nm (P := ¬ ts.any (fun t => meets t m) = true) (nmRs (ts.filter fun t => meets t m)) nmNil (by decide) (by decide) (by rw [← filter_nil_any]; simp)
    have hz : (unmetM d ts).length < sizeLine := by
      have h1 := List.length_filter_le (fun m => !(ts.any fun t => meets t m)) d
      have h2 := h.few
      have := sizeLine_big
      rw [e, List.length_append] at h2
      unfold unmetM
      omega
    refine ⟨_, [some (.d (.list (ms.map eM))), some (.d (.list (ts.map eR))), some (.own ((unmetM (d ++ [m]) ts).map eM)), some (.d (eM m)), none], rfl, ?_, _, rfl⟩
    show g_l_left_b1 [some (.d (.list (ms.map eM))), some (.d (.list (ts.map eR))), some (.own ((unmetM d ts).map eM)), some (.d (eM m)), none] = _
    unfold g_l_left_b1
    simp only [ifS_ap, thenS_ap, toB_ap, op2_ap, frz_ap, e1, Res.map_ok, Res.bind_ok, disp_ap, asNil_ap, List.length_nil, Nat.zero_le, if_true, q, Res.of_some, boolD_bool]
    rw [show unmetM (d ++ [m]) ts = unmetM d ts ++ unmetM [m] ts by simp [unmetM]]
    cases ha : ts.any (fun t => meets t m) with
    | true =>
      have : unmetM [m] ts = [] := List.filter_cons_of_neg (by rw [ha]; decide)
      rw [this]
      simp
    | false =>
      have : unmetM [m] ts = [m] := List.filter_cons_of_pos (by rw [ha]; rfl)
      rw [this, appS_own (xs := (unmetM d ts).map eM) _ rfl]
      simp [hz]
  obtain ⟨ρ', h1, y, rfl⟩ := loop
  unfold f_l_left
  rw [runD_eq]
  show ofS (g_l_left [some (.d (.list (ms.map eM))), some (.d (.list (ts.map eR))), none, none, none]) = _
  unfold g_l_left
  simp only [seqS_ap, setO_ap, forS_ap, thenS_ap, disp_ap, asNil_ap, Res.bind_ok, List.length_nil, Nat.zero_le, if_true, List.set_cons_succ, List.set_cons_zero, toSeq_ap, rd_ap, List.getElem?_cons_succ, List.getElem?_cons_zero, seqOf_list, Res.of_some, h1, retV_ap, ofS_ro]
theorem m_without {ts : List Row} {i : Nat} (h : ts.length ≤ 10000) : f_without [.list (ts.map eR), .int (i : Int)] = .ro ((ts.eraseIdx i).map eR) := by
  have e1 := cutD_to (ts.map eR) i
  have e2 := cutD_from (ts.map eR) (i + 1)
  rw [Int.natCast_add, show ((1 : Nat) : Int) = 1 from rfl] at e2
  have hz : ((ts.map eR).take i).length + ((ts.map eR).drop (i + 1)).length ≤ sizeLine := by
    have := sizeLine_big
    rw [List.length_take, List.length_drop, List.length_map]
    omega
  have e3 : catD (.list ((ts.map eR).take i)) (.list ((ts.map eR).drop (i + 1))) = some ((ts.eraseIdx i).map eR) := by
    show (if _ then _ else _) = _
    rw [if_pos hz, ← List.map_take, ← List.map_drop, ← List.map_append, take_drop_erase]
  unfold f_without
  rw [runD_eq]
  show ofS (g_without [some (.d (.list (ts.map eR))), some (.d (.int (i : Int)))]) = _
  unfold g_without
  simp only [retO_ap, thenS_ap, op2_ap, sl3_ap, ptN_ap, ptS_ap, rdB_ap, kst_ap, List.getElem?_cons_succ, List.getElem?_cons_zero, Res.bind_ok, Res.map_ok, intOf_int, Res.of_some, addD_int, e1, e2, e3, ofS_ro]
theorem m_is_row {lv : List Nat} (hw : WL lv) {t : Row} (ht : t ∈ rows lv) : f_is_row [eR lv, eR t] = .rt (.bool true) := by
  have hl := rows_mem_len lv t ht
  have e := lc_map (fi := cb rng1 (asCons (cb lenD (asCons (rdB 0) asNil)) asNil)) (t := tgName 2) (c := g_is_row_c1) (e := rd 2) (vs := [2]) (ρ := [some (.d (eR lv)), some (.d (eR t)), none]) (enc := eN) (p := fun _ => false) (g := eN) (List.range lv.length)
    (by
      have hn : lenD [eR lv] = some (.int (lv.length : Int)) := by simp [eR]
      simp only [cb_ap, asCons_ap, asNil_ap, rdB_ap, List.getElem?_cons_zero, Res.bind_ok, Res.map_ok, hn, Res.of_some]
      rw [rng1_N (by have := hw.hi; omega)]
      rfl)
    fun i hi => ⟨[some (.d (eR lv)), some (.d (eR t)), some (.d (eN i))], rfl, by
      have hi' := List.mem_range.mp hi
      have hit : i < t.length := by omega
      obtain ⟨l, e1, e2⟩ := rows_at t ht i hit
      have a1 : atI (t.map eN) (i : Int) = some (eN t[i]) := atR hit
      have a2 : atI (lv.map eN) (i : Int) = some (eN l) := atI_nat (by rw [List.getElem?_map, e1]; rfl)
      have w := m_is_within ((t[i] : Nat) : Int) 0 ((l : Int) - 1)
      rw [decide_eq_true (show (0 : Int) ≤ ((t[i] : Nat) : Int) by omega), decide_eq_true (show ((t[i] : Nat) : Int) ≤ (l : Int) - 1 by omega)] at w
      unfold g_is_row_c1
      rw [show eR lv = .tuple (lv.map eN) from rfl, show eR t = .tuple (t.map eN) from rfl, show eN i = .int (i : Int) from rfl]
      simp only [notT_ap, toTru_ap, callR_ap, asCons_ap, asNil_ap, op2_ap, rdB_ap, kst_ap, List.getElem?_cons_succ, List.getElem?_cons_zero, Res.bind_ok, Res.map_ok, ixD_tup, a1, a2, Res.of_some]
      simp only [eN, intD_int, if_true, Res.of_some, Res.bind_ok, Res.map_ok, List.length_cons, List.length_nil, Nat.zero_add, Nat.reduceAdd, w, res_rt, truD_bool, Bool.and_self, Bool.not_true], fun z => by cases z⟩
  have fe : (List.range lv.length).filter (fun _ => false) = [] := by simp
  rw [fe] at e
  have hn : lenD [eR lv] = some (.int (lv.length : Int)) := by simp [eR]
  have hn2 : lenD [eR t] = some (.int (t.length : Int)) := by simp [eR]
  unfold f_is_row
  rw [runD_eq]
  show ofS (g_is_row [some (.d (eR lv)), some (.d (eR t)), none]) = _
  unfold g_is_row
  have hi : isiD "tuple" (eR t) = some true := rfl
  have hlt : (t.length : Int) = (lv.length : Int) := by omega
  simp only [seqS_ap, ifS_ap, retS_ap, thenS_ap, orT_ap, notT_ap, toTru_ap, toB_ap, isiR_ap, cb_ap, op2_ap, asCons_ap, asNil_ap, rdB_ap, List.getElem?_cons_succ, List.getElem?_cons_zero, Res.bind_ok, Res.map_ok, hi, Option.map_some, Res.of_some, truD_bool, hn, hn2, hlt, neD_int, decide_true, boolD_bool, Bool.not_true, Bool.false_eq_true, if_false, ofB_ap, frz_ap, e]
  rfl
theorem m_look_tests {b : Book} (h : WF b) {ts : List Row} (ht : ∀ t ∈ ts, t ∈ tests b) : f_look_tests [eB b, .list (ts.map eR)] = .rt .none := by
  have hl : ixD (eB b) (.int 0) = some (eR b.1) := by simp [eB]
  have loop : ∃ ρ', forL (tgPair 2 3) g_look_tests_b1 (ts.zipIdx.map fun p => .tuple [.int ((p.2 : Nat) : Int), eR p.1]) [some (.d (eB b)), some (.d (.list (ts.map eR))), none, none] = .nx ρ' ∧ ∃ x y, ρ' = [some (.d (eB b)), some (.d (.list (ts.map eR))), x, y] := by
    refine forL_inv (fun d ρ => ∃ x y, ρ = [some (.d (eB b)), some (.d (.list (ts.map eR))), x, y]) ts.zipIdx ?_ ⟨none, none, rfl⟩
    rintro d p r ρ e ⟨x, y, rfl⟩
    have hp : p.1 ∈ ts := by
      have : p ∈ ts.zipIdx := by rw [e]; simp
      exact List.fst_mem_of_mem_zipIdx this
    have hpt := ht _ hp
    have hr := (List.mem_filter.mp hpt).1
    have ha := (List.mem_filter.mp hpt).2
    refine ⟨_, [some (.d (eB b)), some (.d (.list (ts.map eR))), some (.d (.int ((p.2 : Nat) : Int))), some (.d (eR p.1))], rfl, ?_, _, _, rfl⟩
    show g_look_tests_b1 [some (.d (eB b)), some (.d (.list (ts.map eR))), some (.d (.int ((p.2 : Nat) : Int))), some (.d (eR p.1))] = _
    unfold g_look_tests_b1
    simp only [ifS_ap, thenS_ap, orT_ap, notT_ap, toTru_ap, callR_ap, asCons_ap, asNil_ap, op2_ap, rd_ap, rdB_ap, kst_ap, List.getElem?_cons_succ, List.getElem?_cons_zero, Res.bind_ok, Res.map_ok, hl, Res.of_some, List.length_cons, List.length_nil, Nat.zero_add, Nat.reduceAdd, if_true, m_is_row h.wl hr, m_is_allowed (bans_lt h hr), res_rt, truD_bool, Bool.not_true, Bool.false_eq_true, if_false, ha]
  obtain ⟨ρ', h1, x, y, rfl⟩ := loop
  have he : enumL (ts.map eR) = ts.zipIdx.map fun p => .tuple [.int ((p.2 : Nat) : Int), eR p.1] := by
    unfold enumL
    rw [List.zipIdx_map, List.map_map]
    rfl
  unfold f_look_tests
  rw [runD_eq]
  show ofS (g_look_tests [some (.d (eB b)), some (.d (.list (ts.map eR))), none, none]) = _
  unfold g_look_tests
  simp only [seqS_ap, ifS_ap, forS_ap, thenS_ap, notT_ap, toTru_ap, isiR_ap, rd_ap, rdB_ap, List.getElem?_cons_succ, List.getElem?_cons_zero, Res.bind_ok, Res.map_ok, isi_list_list, Option.map_some, Res.of_some, truD_bool, Bool.not_true, Bool.false_eq_true, if_false, toEnum_ap, seqOf_list, he, h1, ofS_nx]
variable {b : Book} {s : Nat}
theorem m_look_cover (h : WF b) (s1 : 1 ≤ s) (s3 : s ≤ 3) (sl : s ≤ b.1.length) {ts : List Row} (ht : ∀ t ∈ ts, t ∈ tests b) : f_look_cover [eB b, .int (s : Int), .list (ts.map eR)] = .rt .none := by
  unfold f_look_cover
  rw [runD_eq]
  show ofS (g_look_cover [some (.d (eB b)), some (.d (.int (s : Int))), some (.d (.list (ts.map eR)))]) = _
  unfold g_look_cover
  simp only [seqS_ap, dropS_ap, thenS_ap, callR_ap, asCons_ap, asNil_ap, rd_ap, List.getElem?_cons_succ, List.getElem?_cons_zero, Res.bind_ok, Res.map_ok, List.length_cons, List.length_nil, Nat.zero_add, Nat.reduceAdd, if_true, m_look_strength h s1 s3 sl, m_look_tests h ht, res_rt, ofS_nx]
theorem fit_of (h : WF b) (s1 : 1 ≤ s) (s3 : s ≤ 3) {ts : List Row} (ht : ∀ t ∈ ts, t ∈ tests b) (hl : ts.length ≤ 10000) : Fit b.1.length (poss b s) ts := by
  have mf := mf_of h.wl s1 s3
  refine ⟨fun t htt => rows_mem_len b.1 t (List.mem_filter.mp (ht t htt)).1, fun m hm => mf.lt m (MF.memM (poss_iff.mp hm).1), ?_, hl⟩
  have h1 := List.length_filter_le (fun m => (tests b).any fun t => meets t m) (M b.1 s)
  have h2 := mf.few
  have h3 : (M b.1 s).length = (allM b.1 s).length := List.length_mergeSort _
  unfold poss
  omega
theorem m_missing (h : WF b) (s1 : 1 ≤ s) (s3 : s ≤ 3) (sl : s ≤ b.1.length) {ts : List Row} (ht : ∀ t ∈ ts, t ∈ tests b) (hl : ts.length ≤ 10000) : f_missing [eB b, .int (s : Int), .list (ts.map eR)] = .ro ((unmetM (poss b s) ts).map eM) := by
  unfold f_missing
  rw [runD_eq]
  show ofS (g_missing [some (.d (eB b)), some (.d (.int (s : Int))), some (.d (.list (ts.map eR)))]) = _
  unfold g_missing
  simp only [seqS_ap, dropS_ap, retO_ap, thenS_ap, callR_ap, callO_ap, asCons_ap, asNil_ap, rd_ap, List.getElem?_cons_succ, List.getElem?_cons_zero, Res.bind_ok, Res.map_ok, List.length_cons, List.length_nil, Nat.zero_add, Nat.reduceAdd, if_true, m_look_cover h s1 s3 sl ht, m_possible_of h s1 s3, m_unmet (fit_of h s1 s3 ht hl), res_rt, res_ro, own_ro, ofS_ro]
theorem m_is_cover (h : WF b) (s1 : 1 ≤ s) (s3 : s ≤ 3) (sl : s ≤ b.1.length) {ts : List Row} (ht : ∀ t ∈ ts, t ∈ tests b) (hl : ts.length ≤ 10000) : f_is_cover [eB b, .int (s : Int), .list (ts.map eR)] = .rt (.bool (decide (unmetM (poss b s) ts = []))) := by
  unfold f_is_cover
  rw [runD_eq]
  show ofS (g_is_cover [some (.d (eB b)), some (.d (.int (s : Int))), some (.d (.list (ts.map eR)))]) = _
  unfold g_is_cover
  simp only [retS_ap, thenS_ap, ofB_ap, notT_ap, toTru_ap, callR_ap, asCons_ap, asNil_ap, rd_ap, List.getElem?_cons_succ, List.getElem?_cons_zero, Res.bind_ok, Res.map_ok, List.length_cons, List.length_nil, Nat.zero_add, Nat.reduceAdd, if_true, m_missing h s1 s3 sl ht hl, res_ro, truD_list, Res.of_some, isEmpty_map, ofS_rt]
  cases unmetM (poss b s) ts <;> rfl
theorem m_needless (h : WF b) (s1 : 1 ≤ s) (s3 : s ≤ 3) (sl : s ≤ b.1.length) {ts : List Row} (ht : ∀ t ∈ ts, t ∈ tests b) (hl : ts.length ≤ 1000) :
    f_needless [eB b, .int (s : Int), .list (ts.map eR)] = .ro (((List.range ts.length).filter fun i => decide (unmetM (poss b s) (ts.eraseIdx i) = unmetM (poss b s) ts)).map eN) := by
  have hf := fit_of h s1 s3 ht (by omega)
  have e := lc_map (fi := cb rng1 (asCons (cb lenD (asCons (rdB 2) asNil)) asNil)) (t := tgName 5) (c := g_needless_c1) (e := rd 5) (vs := [5])
    (ρ := [some (.d (eB b)), some (.d (.int (s : Int))), some (.d (.list (ts.map eR))), some (.d (.list ((unmetM (poss b s) ts).map eM))), some (.d (.list ((poss b s).map eM))), none]) (enc := eN) (p := fun i => decide (unmetM (poss b s) (ts.eraseIdx i) = unmetM (poss b s) ts)) (g := eN) (List.range ts.length)
    (by
      simp only [cb_ap, asCons_ap, asNil_ap, rdB_ap, List.getElem?_cons_succ, List.getElem?_cons_zero, Res.bind_ok, Res.map_ok, lenD_list, List.length_map, Res.of_some]
      rw [rng1_N (by omega)]
      rfl)
    fun i hi => ⟨[some (.d (eB b)), some (.d (.int (s : Int))), some (.d (.list (ts.map eR))), some (.d (.list ((unmetM (poss b s) ts).map eM))), some (.d (.list ((poss b s).map eM))), some (.d (.int (i : Int)))], rfl, by
      unfold g_needless_c1
      simp only [toB_ap, op2_ap, callR_ap, asCons_ap, asNil_ap, rd_ap, rdB_ap, List.getElem?_cons_succ, List.getElem?_cons_zero, Res.bind_ok, Res.map_ok, List.length_cons, List.length_nil, Nat.zero_add, Nat.reduceAdd, if_true, m_without (ts := ts) (i := i) (by omega), m_unmet (hf.erase i), res_ro, eqMs, Res.of_some, boolD_bool], fun _ => rfl⟩
  unfold f_needless
  rw [runD_eq]
  show ofS (g_needless [some (.d (eB b)), some (.d (.int (s : Int))), some (.d (.list (ts.map eR))), none, none, none]) = _
  unfold g_needless
  simp only [seqS_ap, dropS_ap, setS_ap, retO_ap, thenS_ap, callR_ap, asCons_ap, asNil_ap, rd_ap, List.getElem?_cons_succ, List.getElem?_cons_zero, Res.bind_ok, Res.map_ok, List.length_cons, List.length_nil, Nat.zero_add, Nat.reduceAdd, if_true, m_look_cover h s1 s3 sl ht, m_possible_of h s1 s3, m_unmet hf, res_rt, res_ro, List.set_cons_succ, List.set_cons_zero, e, ofS_ro]
end
end DL

/-! The plain part, 15: trimmed tests; drawn tests. -/
namespace DL
open PySem PySem.Spec PyProof.Rows L2
/-- one step of trimming: the k-th from the end of n -/
def tStep (ms left : List Meet) (n : Nat) (f : List Row) (k : Nat) : List Row := if unmetM ms (f.eraseIdx (n - 1 - k)) = left then f.eraseIdx (n - 1 - k) else f
def trimK (ms : List Meet) (ts : List Row) (d : List Nat) : List Row := d.foldl (tStep ms (unmetM ms ts) ts.length) ts
def trimM (ms : List Meet) (ts : List Row) : List Row := trimK ms ts (List.range ts.length)
theorem trimK_snoc (ms : List Meet) (ts : List Row) (d : List Nat) (k : Nat) : trimK ms ts (d ++ [k]) = tStep ms (unmetM ms ts) ts.length (trimK ms ts d) k := by simp [trimK, List.foldl_append]
theorem trimK_sub (ms : List Meet) (ts : List Row) (d : List Nat) : (∀ t ∈ trimK ms ts d, t ∈ ts) ∧ (trimK ms ts d).length ≤ ts.length ∧ ts.length ≤ (trimK ms ts d).length + d.length := by
  induction d using rows_ind with
  | h0 => simp [trimK]
  | hs d k ih =>
    obtain ⟨h1, h2, h3⟩ := ih
    rw [trimK_snoc]
    unfold tStep
    rw [List.length_append, List.length_singleton]
    split
    · refine ⟨fun t ht => h1 t (List.mem_of_mem_eraseIdx ht), ?_, ?_⟩
      · have := List.length_eraseIdx_le (trimK ms ts d) (ts.length - 1 - k); omega
      · have : (trimK ms ts d).length ≤ ((trimK ms ts d).eraseIdx (ts.length - 1 - k)).length + 1 := by
          rw [List.length_eraseIdx]
          split <;> omega
        omega
    · exact ⟨h1, h2, by omega⟩
theorem downTo {n : Nat} (h : n ≤ 1000) : rng3 [.int ((n : Int) - 1), .int (-1), .int (-1)] = some ((List.range n).map fun k : Nat => .int ((n : Int) - 1 - (k : Int))) := by
  have e : rng3 [.int ((n : Int) - 1), .int (-1), .int (-1)] = if (smallR ((n : Int) - 1) && smallR (-1) && decide ((-1 : Int) = -1)) = true then some (downFrom ((n : Int) - 1) ((n : Int) - 1 - (-1)).toNat) else none := rfl
  rw [e, smallR_of (by omega) (by omega), smallR_of (by omega) (by omega), decide_eq_true rfl]
  simp only [Bool.and_self, if_true]
  rw [show ((n : Int) - 1 - (-1)).toNat = n by omega]
  rfl
theorem down_at {n k : Nat} (h : k < n) : (n : Int) - 1 - (k : Int) = ((n - 1 - k : Nat) : Int) := by omega
theorem popAt_own {i j : Nat} {ρ : Rho} {xs : List D} {y : D} {f : Rho → Res D} (h : ρ[i]? = some (some (.own xs))) (hf : f ρ = .ok (.int (j : Int))) (hj : xs[j]? = some y) : popAtD i f ρ = .ok (y, ρ.set i (some (.own (xs.eraseIdx j)))) := by
  unfold popAtD ownR
  rw [h]
  show ((f ρ).bind _) = _
  rw [hf]
  rw [Res.bind_ok]
  simp only [Int.natCast_nonneg, if_true, Int.toNat_natCast, hj, Res.of_some, Res.map_ok]
theorem flatA_map {α : Type} {f : α → D} (h : ∀ x, flat (f x) = true) (xs : List α) : flatA (xs.map f) = true := by
  induction xs with
  | nil => rfl
  | cons x xs ih => simp [flatA, h, ih]
theorem flat_N (n : Nat) : flat (eN n) = true := rfl
theorem flat_R (r : List Nat) : flat (eR r) = true := by
  show flatA (r.map eN) = true
  exact flatA_map flat_N r
section
open DM
theorem m_trimmed_of {n : Nat} {ms : List Meet} {ts : List Row} (h : Fit n ms ts) (hl : ts.length ≤ 1000) : f_trimmed_of [.list (ms.map eM), .list (ts.map eR)] = .ro ((trimM ms ts).map eR) := by
  have loop : ∃ ρ', forL (tgName 4) g_trimmed_of_b1 ((List.range ts.length).map fun k : Nat => .int ((ts.length : Int) - 1 - (k : Int))) [some (.d (.list (ms.map eM))), some (.d (.list (ts.map eR))), some (.own (ts.map eR)), some (.d (.list ((unmetM ms ts).map eM))), none] = .nx ρ' ∧
      ∃ y, ρ' = [some (.d (.list (ms.map eM))), some (.d (.list (ts.map eR))), some (.own ((trimM ms ts).map eR)), some (.d (.list ((unmetM ms ts).map eM))), y] := by
    refine forL_inv (fun d ρ => ∃ y, ρ = [some (.d (.list (ms.map eM))), some (.d (.list (ts.map eR))), some (.own ((trimK ms ts d).map eR)), some (.d (.list ((unmetM ms ts).map eM))), y]) (List.range ts.length) ?_ ⟨none, rfl⟩
    rintro d k r ρ e ⟨y, rfl⟩
    have hk : k < ts.length := List.mem_range.mp (by rw [e]; simp)
    obtain ⟨t1, t2, t3⟩ := trimK_sub ms ts d
    have hf : Fit n ms (trimK ms ts d) := h.sub t1 (by omega)
    have w := m_without (ts := trimK ms ts d) (i := ts.length - 1 - k) (by omega)
    have hfl : flatA (((trimK ms ts d).eraseIdx (ts.length - 1 - k)).map eR) = true := flatA_map flat_R _
    have w2 : lendO 2 (callO 2 f_without (asCons (rd 2) (asCons (rd 4) asNil))) [some (.d (.list (ms.map eM))), some (.d (.list (ts.map eR))), some (.own ((trimK ms ts d).map eR)), some (.d (.list ((unmetM ms ts).map eM))), some (.d (.int ((ts.length - 1 - k : Nat) : Int)))] = .ok (((trimK ms ts d).eraseIdx (ts.length - 1 - k)).map eR) := by
      rw [lendO_own (xs := (trimK ms ts d).map eR) rfl]
      simp only [frzAt_ap, List.getElem?_cons_succ, List.getElem?_cons_zero, List.set_cons_succ, List.set_cons_zero, callO_ap, asCons_ap, asNil_ap, rd_ap, Res.bind_ok, Res.map_ok, List.length_cons, List.length_nil, Nat.zero_add, Nat.reduceAdd, if_true, w, own_ro, hfl]
    refine ⟨_, [some (.d (.list (ms.map eM))), some (.d (.list (ts.map eR))), some (.own ((trimK ms ts (d ++ [k])).map eR)), some (.d (.list ((unmetM ms ts).map eM))), some (.d (.int ((ts.length - 1 - k : Nat) : Int)))], rfl, ?_, _, rfl⟩
    rw [down_at hk, trimK_snoc]
    show g_trimmed_of_b1 [some (.d (.list (ms.map eM))), some (.d (.list (ts.map eR))), some (.own ((trimK ms ts d).map eR)), some (.d (.list ((unmetM ms ts).map eM))), some (.d (.int ((ts.length - 1 - k : Nat) : Int)))] = _
    unfold g_trimmed_of_b1 tStep
    simp only [ifS_ap, thenS_ap, toB_ap, op2_ap, setO_ap, callR_ap, asCons_ap, asNil_ap, frz_ap, w2, rd_ap, rdB_ap, List.getElem?_cons_succ, List.getElem?_cons_zero, Res.bind_ok, Res.map_ok, List.length_cons, List.length_nil, Nat.zero_add, Nat.reduceAdd, if_true, m_unmet (hf.erase _), res_ro, eqMs, Res.of_some, boolD_bool, List.set_cons_succ, List.set_cons_zero]
    by_cases hc : unmetM ms ((trimK ms ts d).eraseIdx (ts.length - 1 - k)) = unmetM ms ts
    · rw [if_pos (decide_eq_true hc), if_pos hc]
    · rw [if_neg (by rw [decide_eq_false hc]; decide), if_neg hc]
  obtain ⟨ρ', h1, y, rfl⟩ := loop
  unfold f_trimmed_of
  rw [runD_eq]
  show ofS (g_trimmed_of [some (.d (.list (ms.map eM))), some (.d (.list (ts.map eR))), none, none, none]) = _
  unfold g_trimmed_of
  have hd := downTo hl
  simp only [seqS_ap, setS_ap, setO_ap, forS_ap, retS_ap, retV_ap, thenS_ap, frz_ap, cb_ap, callR_ap, asCons_ap, asNil_ap, op2_ap, negR_ap, kst_ap, rd_ap, rdB_ap, List.getElem?_cons_succ, List.getElem?_cons_zero, Res.bind_ok, Res.map_ok, List.length_cons, List.length_nil, List.length_map, Nat.zero_add, Nat.reduceAdd, if_true, toListD_list, lenD_list, intD_int, Res.of_some, m_unmet h, res_ro, List.set_cons_succ, List.set_cons_zero, hd, h1, ofS_ro]
variable {b : Book} {s : Nat}
theorem m_trimmed (h : WF b) (s1 : 1 ≤ s) (s3 : s ≤ 3) (sl : s ≤ b.1.length) {ts : List Row} (ht : ∀ t ∈ ts, t ∈ tests b) (hl : ts.length ≤ 1000) : f_trimmed [eB b, .int (s : Int), .list (ts.map eR)] = .ro ((trimM (poss b s) ts).map eR) := by
  unfold f_trimmed
  rw [runD_eq]
  show ofS (g_trimmed [some (.d (eB b)), some (.d (.int (s : Int))), some (.d (.list (ts.map eR)))]) = _
  unfold g_trimmed
  simp only [seqS_ap, dropS_ap, retO_ap, thenS_ap, callR_ap, callO_ap, asCons_ap, asNil_ap, rd_ap, List.getElem?_cons_succ, List.getElem?_cons_zero, Res.bind_ok, Res.map_ok, List.length_cons, List.length_nil, Nat.zero_add, Nat.reduceAdd, if_true, m_look_cover h s1 s3 sl ht, m_possible_of h s1 s3, m_trimmed_of (fit_of h s1 s3 ht (by omega)) hl, res_rt, res_ro, own_ro, ofS_ro]
theorem tests_len (h : WF b) : (tests b).length ≤ 81 := Nat.le_trans (List.length_filter_le _ _) (rows_le h)
theorem m_l_drawn {ns : List Int} (h : WF b) (at_ : Nat) {most : Nat} (hm : most ≤ 100) : ∃ ts : List Row, (∀ t ∈ ts, t ∈ tests b) ∧ ts.length ≤ most ∧ f_l_drawn [eS ns, .int (at_ : Int), eB b, .int (most : Int)] = .ro (ts.map eR) := by
  have e0 := m_l_cell ns at_
  generalize hc : cellOf ns at_ = cell at e0
  obtain ⟨n, en, hn⟩ := mix_nat cell 9923 (m := most + 1) (by omega)
  have x1 := m_l_mix (c := cell) (p := 9923) (m := ((most + 1 : Nat) : Int)) (by decide) (by omega)
  rw [en, Int.natCast_add, show ((1 : Nat) : Int) = 1 from rfl] at x1
  have q := neD_nm (P := tests b = []) (nmRs (tests b)) nmNil (by decide) (by decide) (by simp)
  by_cases h0 : tests b = []
  · refine ⟨[], by simp, by simp, ?_⟩
    rw [decide_eq_true h0] at q
    unfold f_l_drawn
    rw [runD_eq]
    show ofS (g_l_drawn [some (.d (eS ns)), some (.d (.int (at_ : Int))), some (.d (eB b)), some (.d (.int (most : Int))), none, none, none]) = _
    unfold g_l_drawn
    simp only [seqS_ap, setS_ap, setO_ap, ifS_ap, forS_ap, thenS_ap, toB_ap, op2_ap, frz_ap, disp_ap, callR_ap, asCons_ap, asNil_ap, rd_ap, rdB_ap, List.getElem?_cons_succ, List.getElem?_cons_zero, Res.bind_ok, Res.map_ok, List.length_cons, List.length_nil, Nat.zero_add, Nat.zero_le, if_true, m_l_tests h, res_ro, List.set_cons_succ, List.set_cons_zero, q, Res.of_some, boolD_bool, Bool.not_true, Bool.false_eq_true, if_false, retV_ap, ofS_ro]
    rfl
  · have hpos : 0 < (tests b).length := List.length_pos_iff.mpr h0
    have htl := tests_len h
    rw [decide_eq_false h0] at q
    have loop : ∃ ρ', forL (tgName 6) g_l_drawn_b1 ((List.range n).map eN) [some (.d (eS ns)), some (.d (.int (at_ : Int))), some (.d (eB b)), some (.d (.int (most : Int))), some (.d (.list ((tests b).map eR))), some (.own []), none] = .nx ρ' ∧
        ∃ (ts : List Row) (y : Option B), ρ' = [some (.d (eS ns)), some (.d (.int (at_ : Int))), some (.d (eB b)), some (.d (.int (most : Int))), some (.d (.list ((tests b).map eR))), some (.own (ts.map eR)), y] ∧ ts.length = (List.range n).length ∧ ∀ t ∈ ts, t ∈ tests b := by
      refine forL_inv (fun d ρ => ∃ (ts : List Row) (y : Option B), ρ = [some (.d (eS ns)), some (.d (.int (at_ : Int))), some (.d (eB b)), some (.d (.int (most : Int))), some (.d (.list ((tests b).map eR))), some (.own (ts.map eR)), y] ∧ ts.length = d.length ∧ ∀ t ∈ ts, t ∈ tests b) (List.range n) ?_ ⟨[], none, rfl, rfl, fun _ h => by cases h⟩
      rintro d k r ρ e ⟨ts, y, rfl, hl, hts⟩
      have hk : k < n := List.mem_range.mp (by rw [e]; simp)
      have hd : d.length ≤ n := by
        have := congrArg List.length e
        rw [List.length_range, List.length_append] at this
        omega
      have e1 : mulD (.int 29) (.int (k : Int)) = some (.int (29 * (k : Int))) := mulD_small' (smallI_of (by omega) (by omega))
      have e2 : mulD (.int (29 * (k : Int))) (.int (k : Int)) = some (.int (29 * (k : Int) * (k : Int))) := mulD_small (smallI_of (by omega) (by omega))
      obtain ⟨j, ej, hj⟩ := mix_nat (cell + 29 * (k : Int) * (k : Int) + (k : Int)) 9907 hpos
      have x2 := m_l_mix (c := cell + 29 * (k : Int) * (k : Int) + (k : Int)) (p := 9907) (m := ((tests b).length : Int)) (by decide) (by omega)
      rw [ej] at x2
      have a1 : atI ((tests b).map eR) (j : Int) = some (eR (tests b)[j]) := atI_nat (by rw [List.getElem?_map, List.getElem?_eq_getElem hj]; rfl)
      have hz : ts.length < sizeLine := by have := sizeLine_big; omega
      refine ⟨_, [some (.d (eS ns)), some (.d (.int (at_ : Int))), some (.d (eB b)), some (.d (.int (most : Int))), some (.d (.list ((tests b).map eR))), some (.own ((ts ++ [(tests b)[j]]).map eR)), some (.d (.int (k : Int)))], rfl, ?_, ts ++ [(tests b)[j]], _, rfl, by simp [hl], fun t ht => ?_⟩
      · show g_l_drawn_b1 [some (.d (eS ns)), some (.d (.int (at_ : Int))), some (.d (eB b)), some (.d (.int (most : Int))), some (.d (.list ((tests b).map eR))), some (.own (ts.map eR)), some (.d (.int (k : Int)))] = _
        unfold g_l_drawn_b1
        rw [appS_own (xs := ts.map eR) _ rfl]
        simp only [thenS_ap, op2_ap, callR_ap, cb_ap, asCons_ap, asNil_ap, rd_ap, rdB_ap, kst_ap, List.getElem?_cons_succ, List.getElem?_cons_zero, Res.bind_ok, Res.map_ok, List.length_cons, List.length_nil, List.length_map, Nat.zero_add, Nat.reduceAdd, if_true, e0, e1, e2, res_rt, addD_int, lenD_list, Res.of_some, x2, ixD_list, a1, hz]
        simp
      · rcases List.mem_append.mp ht with ht | ht
        · exact hts t ht
        · rw [List.mem_singleton.mp ht]; exact List.getElem_mem hj
    obtain ⟨ρ', h1, ts, y, rfl, hl, hts⟩ := loop
    rw [List.length_range] at hl
    refine ⟨ts, hts, by omega, ?_⟩
    have r1 : rng1 [.int (n : Int)] = some ((List.range n).map eN) := rng1_N (by omega)
    unfold f_l_drawn
    rw [runD_eq]
    show ofS (g_l_drawn [some (.d (eS ns)), some (.d (.int (at_ : Int))), some (.d (eB b)), some (.d (.int (most : Int))), none, none, none]) = _
    unfold g_l_drawn
    simp only [seqS_ap, setS_ap, setO_ap, ifS_ap, forS_ap, thenS_ap, toB_ap, op2_ap, cb_ap, frz_ap, disp_ap, callR_ap, asCons_ap, asNil_ap, kst_ap, rd_ap, rdB_ap, List.getElem?_cons_succ, List.getElem?_cons_zero, Res.bind_ok, Res.map_ok, List.length_cons, List.length_nil, Nat.zero_add, Nat.reduceAdd, Nat.zero_le, if_true, m_l_tests h, res_ro, res_rt, List.set_cons_succ, List.set_cons_zero, q, Res.of_some, boolD_bool, Bool.not_false, e0, addD_int, x1, r1, h1, retV_ap, ofS_ro]
end
end DL

/-! The plain part, 16: tests in order. -/
namespace DL
open PySem PySem.Spec PyProof.Rows L2
def newsM (left : List Meet) (t : List Nat) : Nat := (left.filter fun m => meets t m).length
def mx (ns : List Nat) : Nat := ns.foldl max 0
def maxAt (ns : List Nat) : Nat := ns.findIdx fun x => x == mx ns
theorem foldl_max_ge (n : Nat) (ns : List Nat) : n ≤ ns.foldl max n ∧ ∀ y ∈ ns, y ≤ ns.foldl max n := by
  induction ns generalizing n with
  | nil => simp
  | cons m ns ih =>
    obtain ⟨h1, h2⟩ := ih (max n m)
    rw [List.foldl_cons]
    refine ⟨by omega, fun y hy => ?_⟩
    rcases List.mem_cons.mp hy with rfl | hy
    · omega
    · exact h2 y hy
theorem foldl_max_mem (n : Nat) (ns : List Nat) : ns.foldl max n ∈ n :: ns := by
  induction ns generalizing n with
  | nil => simp
  | cons m ns ih =>
    rw [List.foldl_cons]
    rcases List.mem_cons.mp (ih (max n m)) with h | h
    · rw [h]
      by_cases hm : n ≤ m
      · rw [Nat.max_eq_right hm]; simp
      · rw [Nat.max_eq_left (by omega)]; simp
    · simp [h]
theorem mx_ge {ns : List Nat} {y : Nat} (h : y ∈ ns) : y ≤ mx ns := (foldl_max_ge 0 ns).2 y h
theorem mx_mem {ns : List Nat} (h : ns ≠ []) : mx ns ∈ ns := by
  cases ns with
  | nil => exact absurd rfl h
  | cons n ns =>
    have := foldl_max_mem n ns
    unfold mx
    rw [List.foldl_cons, Nat.zero_max]
    exact this
theorem maxAt_lt {ns : List Nat} (h : ns ≠ []) : maxAt ns < ns.length := List.findIdx_lt_length_of_exists ⟨_, mx_mem h, by simp⟩
theorem maxAt_get {ns : List Nat} (h : ns ≠ []) : ns[maxAt ns]'(maxAt_lt h) = mx ns := by
  have := List.findIdx_getElem (w := maxAt_lt h)
  unfold maxAt
  simpa using this
theorem maxI_nat (n : Nat) (ns : List Nat) : maxI (n : Int) (ns.map fun x : Nat => (x : Int)) = ((ns.foldl max n : Nat) : Int) := by
  unfold maxI
  induction ns generalizing n with
  | nil => rfl
  | cons m ns ih =>
    rw [List.map_cons, List.foldl_cons, List.foldl_cons, ← ih (max n m)]
    congr 1
    omega
theorem eN_map (ns : List Nat) : ns.map eN = (ns.map fun x : Nat => (x : Int)).map PyData.int := by
  rw [List.map_map]
  rfl
theorem maxLD_N {ns : List Nat} (h : ns ≠ []) : maxLD [.list (ns.map eN)] = some (.int ((mx ns : Nat) : Int)) := by
  cases ns with
  | nil => exact absurd rfl h
  | cons n ns =>
    have e : intsOf ((n :: ns).map eN) = some ((n : Int) :: ns.map fun x : Nat => (x : Int)) := by
      rw [eN_map, intsOf_map]
      rfl
    show (match intsOf ((n :: ns).map eN) with | some (n :: ns) => some (PyData.int (maxI n ns)) | _ => none) = _
    rw [e]
    show some (PyData.int (maxI (n : Int) _)) = _
    rw [maxI_nat]
    unfold mx
    rw [List.foldl_cons, Nat.zero_max]
theorem indexD_N {ns : List Nat} (h : ns ≠ []) : indexD (.list (ns.map eN)) (.int ((mx ns : Nat) : Int)) = some (.int ((maxAt ns : Nat) : Int)) := by
  have h1 : SeqAt.shaped (.list (ns.map eN)) = true := (nmNs ns).shaped (by decide)
  have h2 : SeqAt.shaped (.int ((mx ns : Nat) : Int)) = true := (Nm.int _).shaped (by decide)
  have h3 : (ns.map eN).findIdx? (fun z => PyData.eqv z (.int ((mx ns : Nat) : Int))) = some (maxAt ns) := by
    rw [List.findIdx?_map]
    have e : ((fun z => PyData.eqv z (.int ((mx ns : Nat) : Int))) ∘ eN) = fun x : Nat => x == mx ns := by
      funext x
      show PyData.eqv (.int (x : Int)) (.int ((mx ns : Nat) : Int)) = _
      simp only [PyData.eqv]
      rw [Bool.eq_iff_iff]
      simp
      omega
    rw [e, List.findIdx?_eq_some_of_exists ⟨mx ns, mx_mem h, by simp⟩]
    rfl
  show (if SeqAt.shaped (.list (ns.map eN)) = true ∧ SeqAt.shaped (.int ((mx ns : Nat) : Int)) = true then _ else none) = _
  rw [if_pos ⟨h1, h2⟩, h3]
  rfl
/-- what is left, the rest, what is found -/
structure OS where
  left : List Meet
  rest : List (List Nat)
  found : List (List Nat)
def ordAt (a : OS) : Nat := maxAt (a.rest.map (newsM a.left))
def ordStep (a : OS) : OS := ⟨unmetM a.left [a.rest.getD (ordAt a) []], a.rest.eraseIdx (ordAt a), a.found ++ [a.rest.getD (ordAt a) []]⟩
def ordGo (a : OS) : Bool := !a.rest.isEmpty
theorem ordAt_lt {a : OS} (h : a.rest ≠ []) : ordAt a < a.rest.length := by
  have : a.rest.map (newsM a.left) ≠ [] := fun z => h (List.map_eq_nil_iff.mp z)
  have := maxAt_lt this
  rw [List.length_map] at this
  exact this
theorem ordAt_get {a : OS} (h : a.rest ≠ []) : a.rest[ordAt a]? = some (a.rest.getD (ordAt a) []) := by
  rw [List.getD_eq_getElem?_getD, List.getElem?_eq_getElem (ordAt_lt h)]
  rfl
theorem ord_mem {a : OS} (h : a.rest ≠ []) : a.rest.getD (ordAt a) [] ∈ a.rest := List.mem_of_getElem? (ordAt_get h)
theorem ord_less {a : OS} (h : a.rest ≠ []) : (ordStep a).rest.length < a.rest.length := by
  have := ordAt_lt h
  show (a.rest.eraseIdx (ordAt a)).length < _
  rw [List.length_eraseIdx, if_pos this]
  omega
/-- what a state keeps -/
structure OK (n : Nat) (P : List Meet) (ts : List (List Nat)) (a : OS) : Prop where
  fit : Fit n a.left a.rest
  all : Fit n P ts
  sub : ∀ t ∈ a.found, t ∈ ts
  rsub : ∀ t ∈ a.rest, t ∈ ts
  len : a.found.length + a.rest.length = ts.length
  left : a.left = unmetM P a.found
theorem unmet_nil (P : List Meet) : unmetM P [] = P := List.filter_eq_self.mpr fun _ _ => rfl
theorem unmet_snoc (P : List Meet) (f : List (List Nat)) (t : List Nat) : unmetM (unmetM P f) [t] = unmetM P (f ++ [t]) := by
  unfold unmetM
  rw [List.filter_filter]
  congr 1
  funext m
  simp [Bool.and_comm]
theorem OK.step {n : Nat} {P : List Meet} {ts : List (List Nat)} {a : OS} (h : OK n P ts a) (hr : a.rest ≠ []) : OK n P ts (ordStep a) := by
  have hm := ord_mem hr
  have hl := ordAt_lt hr
  have hlen := h.len
  refine ⟨⟨fun t ht => h.fit.len t (List.mem_of_mem_eraseIdx ht), fun m hm => h.fit.lt m (unmet_sub m hm), ?_, ?_⟩, h.all, fun t ht => ?_, fun t ht => h.rsub t (List.mem_of_mem_eraseIdx ht), ?_, ?_⟩
  · exact Nat.le_trans (List.length_filter_le _ _) h.fit.few
  · have := ord_less hr; have := h.fit.ft; omega
  · rcases List.mem_append.mp ht with ht | ht
    · exact h.sub t ht
    · rw [List.mem_singleton.mp ht]; exact h.rsub _ hm
  · show (a.found ++ [_]).length + (a.rest.eraseIdx (ordAt a)).length = _
    rw [List.length_append, List.length_singleton, List.length_eraseIdx, if_pos hl]
    omega
  · show unmetM a.left [_] = unmetM P (a.found ++ [_])
    rw [h.left, unmet_snoc]
def ordered (P : List Meet) (ts : List (List Nat)) : OS := iter ordGo ordStep ts.length ⟨P, ts, []⟩
theorem iter_keeps {α : Type} {c : α → Bool} {step : α → α} (I : α → Prop) (h : ∀ a, I a → c a = true → I (step a)) : ∀ (n : Nat) (a : α), I a → I (iter c step n a)
  | 0, a, ha => ha
  | n + 1, a, ha => by
    unfold iter
    split
    · rename_i hc; exact iter_keeps I h n _ (h a ha hc)
    · exact ha
theorem go_rest {a : OS} (h : ordGo a = true) : a.rest ≠ [] := fun z => by
  unfold ordGo at h
  rw [z] at h
  cases h
theorem ordered_ok {n : Nat} {P : List Meet} {ts : List (List Nat)} (h : Fit n P ts) : OK n P ts (ordered P ts) :=
  iter_keeps (OK n P ts) (fun a ha hc => ha.step (go_rest hc)) _ _ ⟨h, h, fun _ z => by (cases z), fun _ z => z, by simp, (unmet_nil P).symm⟩
section
open DM
theorem m_new_met {n : Nat} {ms : List Meet} {t : List Nat} (h : Fit n ms [t]) : f_new_met [.list (ms.map eM), eR t] = .rt (.int ((newsM ms t : Nat) : Int)) := by
  have e := lc_map (fi := toSeq (rdB 0)) (t := tgName 2) (c := g_new_met_c1) (e := rd 2) (vs := [2]) (ρ := [some (.d (.list (ms.map eM))), some (.d (eR t)), none]) (enc := eM) (p := fun m => meets t m) (g := eM) ms rfl
    fun m hm => ⟨[some (.d (.list (ms.map eM))), some (.d (eR t)), some (.d (eM m))], rfl, by simp [g_new_met_c1, m_meets (h.at t (by simp) m hm)], fun _ => rfl⟩
  unfold f_new_met
  rw [runD_eq]
  show ofS (g_new_met [some (.d (.list (ms.map eM))), some (.d (eR t)), none]) = _
  unfold g_new_met
  simp only [retS_ap, thenS_ap, cb_ap, asCons_ap, asNil_ap, frz_ap, e, Res.map_ok, Res.bind_ok, lenD_list, Res.of_some, ofS_rt, List.length_map]
  rfl
variable {b : Book} {s : Nat}
theorem m_in_order (h : WF b) (s1 : 1 ≤ s) (s3 : s ≤ 3) (sl : s ≤ b.1.length) {ts : List (List Nat)} (ht : ∀ t ∈ ts, t ∈ tests b) (hl : ts.length ≤ 1000) : f_in_order [eB b, .int (s : Int), .list (ts.map eR)] = .ro ((ordered (poss b s) ts).found.map eR) := by
  have hf := fit_of h s1 s3 ht (by omega)
  generalize hP : poss b s = P at hf
  have loop := while_iter (w := g_in_order_w1) (b := g_in_order_b1) (fun (a : OS) ρ => OK b.1.length P ts a ∧ ∃ x y, ρ = [some (.d (eB b)), some (.d (.int (s : Int))), some (.d (.list (ts.map eR))), some (.d (.list (a.left.map eM))), some (.own (a.rest.map eR)), some (.own (a.found.map eR)), x, y]) ordGo ordStep (fun a => a.rest.length)
    (fun a ρ ⟨_, x, y, e⟩ => by
      subst e
      unfold g_in_order_w1 ordGo
      simp only [toTru_ap, rdB_ap, List.getElem?_cons_succ, List.getElem?_cons_zero, Res.bind_ok, truD_list, Res.of_some, isEmpty_map])
    (fun a ρ ⟨ha, x, y, e⟩ hc => by
      subst e
      have hr := go_rest hc
      refine ⟨ord_less hr, [some (.d (eB b)), some (.d (.int (s : Int))), some (.d (.list (ts.map eR))), some (.d (.list ((ordStep a).left.map eM))), some (.own ((ordStep a).rest.map eR)), some (.own ((ordStep a).found.map eR)), some (.d (eR (a.rest.getD (ordAt a) []))), some (.d (.list ((a.rest.map (newsM a.left)).map eN)))], ?_, ha.step hr, _, _, rfl⟩
      have fit1 : ∀ t ∈ a.rest, Fit b.1.length a.left [t] := fun t htt => ⟨fun t' ht' => by rw [List.mem_singleton.mp ht']; exact ha.fit.len t htt, ha.fit.lt, ha.fit.few, by simp⟩
      have e1 := lc_map (fi := toSeq (rdB 4)) (t := tgName 6) (c := yes) (e := g_in_order_e1) (vs := [6]) (ρ := [some (.d (eB b)), some (.d (.int (s : Int))), some (.d (.list (ts.map eR))), some (.d (.list (a.left.map eM))), some (.own (a.rest.map eR)), some (.own (a.found.map eR)), x, y]) (enc := eR) (p := fun _ => true) (g := fun t => eN (newsM a.left t)) a.rest rfl
        fun t htt => ⟨[some (.d (eB b)), some (.d (.int (s : Int))), some (.d (.list (ts.map eR))), some (.d (.list (a.left.map eM))), some (.own (a.rest.map eR)), some (.own (a.found.map eR)), some (.d (eR t)), y], rfl, rfl, fun _ => by
          unfold g_in_order_e1
          simp only [callR_ap, asCons_ap, asNil_ap, rd_ap, List.getElem?_cons_succ, List.getElem?_cons_zero, Res.bind_ok, Res.map_ok, List.length_cons, List.length_nil, Nat.zero_add, Nat.reduceAdd, if_true, m_new_met (fit1 t htt), res_rt]
          rfl⟩
      rw [List.filter_eq_self.mpr (fun _ _ => rfl)] at e1
      have e1' : a.rest.map (fun t => eN (newsM a.left t)) = (a.rest.map (newsM a.left)).map eN := by rw [List.map_map]; rfl
      rw [e1'] at e1
      have hne : a.rest.map (newsM a.left) ≠ [] := fun z => hr (List.map_eq_nil_iff.mp z)
      have p1 := popAt_own (i := 4) (j := ordAt a) (ρ := [some (.d (eB b)), some (.d (.int (s : Int))), some (.d (.list (ts.map eR))), some (.d (.list (a.left.map eM))), some (.own (a.rest.map eR)), some (.own (a.found.map eR)), x, some (.d (.list ((a.rest.map (newsM a.left)).map eN)))]) (xs := a.rest.map eR) (y := eR (a.rest.getD (ordAt a) [])) (f := idxR (rdB 7) (cb maxLD (asCons (rdB 7) asNil))) rfl
        (by
          unfold idxR
          simp only [rdB_ap, cb_ap, asCons_ap, asNil_ap, List.getElem?_cons_succ, List.getElem?_cons_zero, Res.bind_ok, Res.map_ok, maxLD_N hne, Res.of_some, indexD_N hne]
          rfl) (by rw [List.getElem?_map, ordAt_get hr]; rfl)
      have z1 : (a.rest.map eR).eraseIdx (ordAt a) = (a.rest.eraseIdx (ordAt a)).map eR := by
        rw [← take_drop_erase, ← List.map_take, ← List.map_drop, ← List.map_append, take_drop_erase]
      rw [z1] at p1
      have hz : a.found.length < sizeLine := by have := ha.len; have := sizeLine_big; omega
      have u1 := m_unmet (fit1 _ (ord_mem hr))
      unfold g_in_order_b1 setE thenE
      simp only [seqS_ap, setS_ap, thenS_ap, frz_ap, e1, Res.map_ok, List.set_cons_succ, List.set_cons_zero, p1]
      rw [appS_own (xs := a.found.map eR) _ rfl]
      simp only [thenS_ap, rd_ap, List.getElem?_cons_succ, List.getElem?_cons_zero, List.length_map, hz, if_true, List.set_cons_succ, List.set_cons_zero, callR_ap, asCons_ap, asNil_ap, frz_ap, disp_ap, Res.bind_ok, Res.map_ok, List.length_cons, List.length_nil, Nat.zero_add, Nat.reduceAdd, Nat.reduceLeDiff]
      rw [show ([eR (a.rest.getD (ordAt a) [])] : List D) = [a.rest.getD (ordAt a) []].map eR from rfl, u1]
      simp [ordStep])
  obtain ⟨ρ', w1, ⟨_, x, y, rfl⟩, _⟩ := loop ts.length ⟨P, ts, []⟩ [some (.d (eB b)), some (.d (.int (s : Int))), some (.d (.list (ts.map eR))), some (.d (.list (P.map eM))), some (.own (ts.map eR)), some (.own []), none, none] (Nat.le_refl _)
    ⟨⟨hf, hf, fun _ z => by (cases z), fun _ z => z, by simp, (unmet_nil P).symm⟩, none, none, rfl⟩
  have x5 := m_possible_of h s1 s3
  rw [hP] at x5
  unfold f_in_order
  rw [runD_eq]
  show ofS (g_in_order [some (.d (eB b)), some (.d (.int (s : Int))), some (.d (.list (ts.map eR))), none, none, none, none, none]) = _
  unfold g_in_order
  simp only [seqS_ap, dropS_ap, setS_ap, setO_ap, thenS_ap, cb_ap, disp_ap, callR_ap, asCons_ap, asNil_ap, rd_ap, rdB_ap, List.getElem?_cons_succ, List.getElem?_cons_zero, Res.bind_ok, Res.map_ok, List.length_cons, List.length_nil, Nat.zero_add, Nat.reduceAdd, Nat.zero_le, if_true, m_look_cover h s1 s3 sl ht, x5, res_rt, res_ro, List.set_cons_succ, List.set_cons_zero, toListD_list, Res.of_some, w1, retV_ap, ofS_ro]
  rfl
end
end DL

/-! The plain part, 17: tests filled and built. -/
namespace DL
open PySem PySem.Spec PyProof.Rows L2
theorem last_cut {xs : List D} {x : D} : cutD (.list (xs ++ [x])) (some (-1)) none = some (.list [x]) := by
  show some (PyData.list (cutG (xs ++ [x]) (some (-1)) none)) = _
  unfold cutG
  have e : HT.sIx (xs ++ [x]).length 0 (some (-1)) = xs.length := by
    unfold HT.sIx
    simp
    omega
  rw [e, show HT.sIx (xs ++ [x]).length (xs ++ [x]).length none = (xs ++ [x]).length from rfl, List.drop_left]
  simp
/-- filling: what is left, what is found -/
structure FS where
  left : List Meet
  found : List (List Nat)
def fillAt (ev : List (List Nat)) (a : FS) : List Nat := ev.getD (maxAt (ev.map (newsM a.left))) []
def fillStep (ev : List (List Nat)) (a : FS) : FS := ⟨unmetM a.left [fillAt ev a], a.found ++ [fillAt ev a]⟩
def fillGo (a : FS) : Bool := !a.left.isEmpty
structure FK (n : Nat) (P : List Meet) (ev : List (List Nat)) (f0 : List (List Nat)) (a : FS) : Prop where
  fit : Fit n P ev
  evl : ev.length ≤ 81
  sub : ∀ m ∈ a.left, m ∈ P
  few : a.left.length ≤ P.length
  some_ : ∀ m ∈ P, ∃ t ∈ ev, meets t m = true
  fsub : ∀ t ∈ a.found, t ∈ ev ∨ t ∈ f0
  flen : a.found.length + a.left.length ≤ f0.length + P.length
  left : a.left = unmetM P a.found
theorem fillGo_ne {a : FS} (h : fillGo a = true) : a.left ≠ [] := fun z => by
  unfold fillGo at h
  rw [z] at h
  cases h
theorem FK.ev {n : Nat} {P : List Meet} {ev f0 : List (List Nat)} {a : FS} (h : FK n P ev f0 a) (hc : a.left ≠ []) : ev.map (newsM a.left) ≠ [] ∧ 1 ≤ mx (ev.map (newsM a.left)) := by
  obtain ⟨m, hm⟩ := List.exists_mem_of_ne_nil _ hc
  obtain ⟨t, ht, hmt⟩ := h.some_ m (h.sub m hm)
  have h1 : newsM a.left t ∈ ev.map (newsM a.left) := List.mem_map.mpr ⟨t, ht, rfl⟩
  refine ⟨fun z => by (rw [z] at h1; cases h1), Nat.le_trans ?_ (mx_ge h1)⟩
  unfold newsM
  exact List.length_pos_iff.mpr fun z => by
    have : m ∈ a.left.filter fun m => meets t m := List.mem_filter.mpr ⟨hm, hmt⟩
    rw [z] at this
    cases this
theorem fillAt_get {ev : List (List Nat)} {a : FS} (h : ev.map (newsM a.left) ≠ []) : ev[maxAt (ev.map (newsM a.left))]? = some (fillAt ev a) ∧ newsM a.left (fillAt ev a) = mx (ev.map (newsM a.left)) := by
  have hl := maxAt_lt h
  have hg := maxAt_get h
  rw [List.length_map] at hl
  have e : ev[maxAt (ev.map (newsM a.left))]? = some (fillAt ev a) := by
    unfold fillAt
    rw [List.getD_eq_getElem?_getD, List.getElem?_eq_getElem hl]
    rfl
  refine ⟨e, ?_⟩
  rw [← hg, List.getElem_map]
  rw [List.getElem?_eq_getElem hl] at e
  rw [Option.some.inj e]
theorem met_nat (ms : List Meet) (t : List Nat) : (unmetM ms [t]).length + newsM ms t = ms.length := by
  have : (ms.filter fun m => meets t m).length + (ms.filter fun m => !meets t m).length = ms.length := by
    induction ms with
    | nil => rfl
    | cons m ms ih =>
      cases h : meets t m <;> simp [List.filter_cons, h] <;> omega
  have e : unmetM ms [t] = ms.filter fun m => !meets t m := by
    unfold unmetM
    congr 1
    funext m
    simp
  rw [e]
  unfold newsM
  omega
theorem FK.step {n : Nat} {P : List Meet} {ev f0 : List (List Nat)} {a : FS} (h : FK n P ev f0 a) (hc : a.left ≠ []) : FK n P ev f0 (fillStep ev a) ∧ (fillStep ev a).left.length < a.left.length := by
  obtain ⟨h1, h2⟩ := h.ev hc
  obtain ⟨h3, h4⟩ := fillAt_get h1
  have h5 := met_nat a.left (fillAt ev a)
  have hlt : (unmetM a.left [fillAt ev a]).length < a.left.length := by omega
  have hmem : fillAt ev a ∈ ev := List.mem_of_getElem? h3
  refine ⟨⟨h.fit, h.evl, fun m hm => h.sub m (unmet_sub m hm), ?_, h.some_, fun t ht => ?_, ?_, ?_⟩, hlt⟩
  · have := h.few
    show (unmetM a.left [fillAt ev a]).length ≤ _
    omega
  · rcases List.mem_append.mp ht with ht | ht
    · exact h.fsub t ht
    · rw [List.mem_singleton.mp ht]; exact .inl hmem
  · have := h.flen
    show (a.found ++ [fillAt ev a]).length + (unmetM a.left [fillAt ev a]).length ≤ _
    rw [List.length_append, List.length_singleton]
    omega
  · show unmetM a.left [_] = unmetM P (a.found ++ [_])
    rw [h.left, unmet_snoc]
def fillM (ev : List (List Nat)) (P : List Meet) (f0 : List (List Nat)) : FS := iter fillGo (fillStep ev) P.length ⟨unmetM P f0, f0⟩
end DL

/-! The plain part, 18: filled, built; what trimming leaves. -/
namespace DL
open PySem PySem.Spec PyProof.Rows L2
theorem unmet_iff {P : List Meet} {ts : List (List Nat)} {m : Meet} : m ∈ unmetM P ts ↔ m ∈ P ∧ ∀ t ∈ ts, meets t m = false := by
  unfold unmetM
  rw [List.mem_filter, Bool.not_eq_true', List.any_eq_false]
  constructor
  · rintro ⟨h1, h2⟩
    exact ⟨h1, fun t ht => by simpa using h2 t ht⟩
  · rintro ⟨h1, h2⟩
    exact ⟨h1, fun t ht => by rw [h2 t ht]; simp⟩
/-- more tests leave no more unmet -/
theorem unmet_sandwich {P : List Meet} {a b c : List (List Nat)} (h1 : ∀ t ∈ a, t ∈ b) (h2 : ∀ t ∈ b, t ∈ c) (e : unmetM P a = unmetM P c) : unmetM P b = unmetM P c := by
  have key : ∀ m ∈ P, (b.any fun t => meets t m) = (c.any fun t => meets t m) := fun m hm => by
    rw [Bool.eq_iff_iff]
    constructor
    · intro h
      obtain ⟨t, ht, hmt⟩ := List.any_eq_true.mp h
      exact List.any_eq_true.mpr ⟨t, h2 t ht, hmt⟩
    · intro h
      cases hb : b.any (fun t => meets t m) with
      | true => rfl
      | false =>
        have hm1 : m ∈ unmetM P a := unmet_iff.mpr ⟨hm, fun t ht => by
          have := List.any_eq_false.mp hb t (h1 t ht)
          simpa using this⟩
        rw [e] at hm1
        obtain ⟨t, ht, hmt⟩ := List.any_eq_true.mp h
        rw [(unmet_iff.mp hm1).2 t ht] at hmt
        cases hmt
  unfold unmetM
  exact List.filter_congr fun m hm => by rw [key m hm]
/-- the state of trimming: what is not gone through, what is kept -/
theorem trim_split (P : List Meet) (ts : List (List Nat)) : ∀ k, k ≤ ts.length → ∃ suf : List (List Nat), trimK P ts (List.range k) = ts.take (ts.length - k) ++ suf ∧ (∀ t ∈ suf, t ∈ ts) ∧ unmetM P (ts.take (ts.length - k) ++ suf) = unmetM P ts ∧
    ∀ s1 x s2, suf = s1 ++ x :: s2 → unmetM P (ts.take (ts.length - k) ++ (s1 ++ s2)) ≠ unmetM P ts
  | 0, _ => ⟨[], by simp [trimK], by simp, by simp, fun s1 x s2 e => by simp at e⟩
  | k + 1, hk => by
    obtain ⟨suf, h1, h2, h3, h4⟩ := trim_split P ts k (by omega)
    have hi : ts.length - 1 - k < ts.length := by omega
    have hk1 : ts.length - (k + 1) = ts.length - 1 - k := by omega
    have htake : ts.take (ts.length - k) = ts.take (ts.length - 1 - k) ++ [ts[ts.length - 1 - k]] := by
      rw [show ts.length - k = ts.length - 1 - k + 1 by omega, List.take_add_one, List.getElem?_eq_getElem hi]
      rfl
    have hlen : (ts.take (ts.length - 1 - k)).length = ts.length - 1 - k := by rw [List.length_take]; omega
    have herase : (ts.take (ts.length - k) ++ suf).eraseIdx (ts.length - 1 - k) = ts.take (ts.length - 1 - k) ++ suf := by
      rw [htake, List.append_assoc, List.eraseIdx_append_of_length_le (by omega), hlen, Nat.sub_self]
      rfl
    rw [List.range_succ, trimK_snoc, h1]
    unfold tStep
    rw [herase, hk1]
    have htk : ∀ j, ∀ t ∈ ts.take j, t ∈ ts := fun j t ht => List.mem_of_mem_take ht
    by_cases hc : unmetM P (ts.take (ts.length - 1 - k) ++ suf) = unmetM P ts
    · rw [if_pos hc]
      refine ⟨suf, rfl, h2, hc, fun s1 x s2 e z => h4 s1 x s2 e ?_⟩
      refine unmet_sandwich (a := ts.take (ts.length - 1 - k) ++ (s1 ++ s2)) (fun t ht => ?_) (fun t ht => ?_) z
      · rw [htake]
        rcases List.mem_append.mp ht with ht | ht
        · exact List.mem_append_left _ (List.mem_append_left _ ht)
        · exact List.mem_append_right _ ht
      · rcases List.mem_append.mp ht with ht | ht
        · exact htk _ t ht
        · refine h2 t ?_
          rw [e]
          rcases List.mem_append.mp ht with ht | ht <;> simp [ht]
    · rw [if_neg hc]
      have e1 : ts.take (ts.length - k) ++ suf = ts.take (ts.length - 1 - k) ++ (ts[ts.length - 1 - k] :: suf) := by rw [htake, List.append_assoc]; rfl
      refine ⟨ts[ts.length - 1 - k] :: suf, e1, fun t ht => ?_, by rw [← e1]; exact h3, fun s1 x s2 e => ?_⟩
      · rcases List.mem_cons.mp ht with rfl | ht
        · exact List.getElem_mem hi
        · exact h2 t ht
      · cases s1 with
        | nil =>
          simp only [List.nil_append, List.cons.injEq] at e
          rw [List.nil_append, ← e.2]
          exact hc
        | cons y s1 =>
          simp only [List.cons_append, List.cons.injEq] at e
          have := h4 s1 x s2 e.2
          rw [htake, List.append_assoc, e.1] at this
          exact this
/-- trimmed tests miss as much, none of them is needless -/
theorem trim_facts (P : List Meet) (ts : List (List Nat)) : unmetM P (trimM P ts) = unmetM P ts ∧ ∀ i, i < (trimM P ts).length → unmetM P ((trimM P ts).eraseIdx i) ≠ unmetM P ts := by
  obtain ⟨suf, h1, h2, h3, h4⟩ := trim_split P ts ts.length (Nat.le_refl _)
  have e : trimM P ts = suf := by
    unfold trimM
    rw [h1]
    simp
  rw [e]
  simp only [Nat.sub_self, List.take_zero, List.nil_append] at h3 h4
  refine ⟨h3, fun i hi => ?_⟩
  have := h4 (suf.take i) suf[i] (suf.drop (i + 1)) (by rw [List.getElem_cons_drop, List.take_append_drop])
  rw [take_drop_erase] at this
  exact this
section
open DM
variable {b : Book} {s : Nat}
theorem m_filled {n : Nat} {P : List Meet} (h : WF b) (hf : Fit n P (tests b)) (hs : ∀ m ∈ P, ∃ t ∈ tests b, meets t m = true) : f_filled [eB b, .list (P.map eM), .list []] = .ro ((fillM (tests b) P []).found.map eR) := by
  have hev := tests_len h
  have hP : unmetM P [] = P := unmet_nil P
  have loop := while_iter (w := g_filled_w1) (b := g_filled_b1) (fun (a : FS) ρ => FK n P (tests b) [] a ∧ ∃ x y, ρ = [some (.d (eB b)), some (.d (.list (P.map eM))), some (.d (.list [])), some (.own (a.found.map eR)), some (.d (.list (a.left.map eM))), some (.d (.list ((tests b).map eR))), x, y]) fillGo (fillStep (tests b)) (fun a => a.left.length)
    (fun a ρ ⟨_, x, y, e⟩ => by
      subst e
      unfold g_filled_w1 fillGo
      simp only [toTru_ap, rdB_ap, List.getElem?_cons_succ, List.getElem?_cons_zero, Res.bind_ok, truD_list, Res.of_some, isEmpty_map])
    (fun a ρ ⟨ha, x, y, e⟩ hc => by
      subst e
      have hr := fillGo_ne hc
      obtain ⟨hst, hlt⟩ := ha.step hr
      obtain ⟨hne, _⟩ := ha.ev hr
      obtain ⟨hg, _⟩ := fillAt_get hne
      refine ⟨hlt, [some (.d (eB b)), some (.d (.list (P.map eM))), some (.d (.list [])), some (.own ((fillStep (tests b) a).found.map eR)), some (.d (.list ((fillStep (tests b) a).left.map eM))), some (.d (.list ((tests b).map eR))), x, some (.d (.list (((tests b).map (newsM a.left)).map eN)))], ?_, hst, _, _, rfl⟩
      have fit1 : ∀ t ∈ tests b, Fit n a.left [t] := fun t htt => ⟨fun t' ht' => by rw [List.mem_singleton.mp ht']; exact hf.len t htt, fun m hm => hf.lt m (ha.sub m hm), Nat.le_trans ha.few hf.few, by simp⟩
      have e1 := lc_map (fi := toSeq (rdB 5)) (t := tgName 6) (c := yes) (e := g_filled_e1) (vs := [6]) (ρ := [some (.d (eB b)), some (.d (.list (P.map eM))), some (.d (.list [])), some (.own (a.found.map eR)), some (.d (.list (a.left.map eM))), some (.d (.list ((tests b).map eR))), x, y]) (enc := eR) (p := fun _ => true) (g := fun t => eN (newsM a.left t)) (tests b) rfl
        fun t htt => ⟨[some (.d (eB b)), some (.d (.list (P.map eM))), some (.d (.list [])), some (.own (a.found.map eR)), some (.d (.list (a.left.map eM))), some (.d (.list ((tests b).map eR))), some (.d (eR t)), y], rfl, rfl, fun _ => by
          unfold g_filled_e1
          simp only [callR_ap, asCons_ap, asNil_ap, rd_ap, List.getElem?_cons_succ, List.getElem?_cons_zero, Res.bind_ok, Res.map_ok, List.length_cons, List.length_nil, Nat.zero_add, Nat.reduceAdd, if_true, m_new_met (fit1 t htt), res_rt]
          rfl⟩
      rw [List.filter_eq_self.mpr (fun _ _ => rfl)] at e1
      have e1' : (tests b).map (fun t => eN (newsM a.left t)) = ((tests b).map (newsM a.left)).map eN := by rw [List.map_map]; rfl
      rw [e1'] at e1
      have a1 : atI ((tests b).map eR) ((maxAt ((tests b).map (newsM a.left)) : Nat) : Int) = some (eR (fillAt (tests b) a)) := DL.atI_nat (by rw [List.getElem?_map, hg]; rfl)
      have hz : a.found.length < sizeLine := by
        have h1 := ha.flen
        have h2 := hf.few
        have := sizeLine_big
        rw [List.length_nil] at h1
        omega
      have u1 := m_unmet (fit1 _ (List.mem_of_getElem? hg))
      rw [show ([fillAt (tests b) a].map eR : List D) = [eR (fillAt (tests b) a)] from rfl] at u1
      unfold g_filled_b1
      simp only [seqS_ap, setS_ap, thenS_ap, frz_ap, e1, Res.map_ok, List.set_cons_succ, List.set_cons_zero]
      rw [appS_own (xs := a.found.map eR) _ rfl]
      unfold idxR
      simp only [thenS_ap, op2_ap, rdB_ap, cb_ap, asCons_ap, asNil_ap, List.getElem?_cons_succ, List.getElem?_cons_zero, Res.bind_ok, Res.map_ok, maxLD_N hne, Res.of_some, indexD_N hne, ixD_list, a1, List.length_map, hz, if_true, List.set_cons_succ, List.set_cons_zero, callR_ap, rd_ap, sl3_ap, ptS_ap, ptN_ap, negR_ap, kst_ap, intOf_int, last_cut, List.length_cons, List.length_nil, Nat.zero_add, Nat.reduceAdd, u1, res_ro]
      simp [fillStep])
  obtain ⟨ρ', w1, ⟨_, x, y, rfl⟩, _⟩ := loop P.length ⟨P, []⟩ [some (.d (eB b)), some (.d (.list (P.map eM))), some (.d (.list [])), some (.own []), some (.d (.list (P.map eM))), some (.d (.list ((tests b).map eR))), none, none] (Nat.le_refl _)
    ⟨⟨hf, hev, fun _ z => z, Nat.le_refl _, hs, fun _ z => by (cases z), by simp, hP.symm⟩, none, none, rfl⟩
  have hfit0 : Fit n P [] := ⟨fun _ z => by (cases z), hf.lt, hf.few, by simp⟩
  have u0 := m_unmet hfit0
  rw [hP, show (([] : List (List Nat)).map eR : List D) = [] from rfl] at u0
  have e4 : lendO 3 (callO 2 f_unmet (asCons (rd 1) (asCons (rd 3) asNil))) [some (.d (eB b)), some (.d (.list (P.map eM))), some (.d (.list [])), some (.own []), none, none, none, none] = .ok (P.map eM) := by
    rw [lendO_own (xs := []) rfl]
    simp only [frzAt_ap, List.getElem?_cons_succ, List.getElem?_cons_zero, List.set_cons_succ, List.set_cons_zero, callO_ap, asCons_ap, asNil_ap, rd_ap, Res.bind_ok, Res.map_ok, List.length_cons, List.length_nil, Nat.zero_add, Nat.reduceAdd, if_true, u0, own_ro]
    have : flatA (P.map eM) = true := flatA_map (fun m => by
      show flatA (m.map eP) = true
      exact flatA_map (fun p => rfl) m) P
    rw [this]
    rfl
  unfold f_filled
  rw [runD_eq]
  show ofS (g_filled [some (.d (eB b)), some (.d (.list (P.map eM))), some (.d (.list [])), none, none, none, none, none]) = _
  unfold g_filled
  simp only [seqS_ap, setS_ap, setO_ap, thenS_ap, cb_ap, callR_ap, asCons_ap, asNil_ap, rd_ap, rdB_ap, List.getElem?_cons_succ, List.getElem?_cons_zero, Res.bind_ok, Res.map_ok, List.length_cons, List.length_nil, Nat.zero_add, if_true, toListD_list, Res.of_some, List.set_cons_succ, List.set_cons_zero, frz_ap, e4, m_tests_of h, res_ro, w1, retV_ap, ofS_ro]
  unfold fillM
  rw [hP]
end
end DL

/-! The plain part, 19: built tests; trimming of what has no needless ones; orders are rearrangements; sorted rows; greater meetings. -/
namespace DL
open PySem PySem.Spec PyProof.Rows L2
theorem poss_met {b : Book} {s : Nat} : ∀ m ∈ poss b s, ∃ t ∈ tests b, meets t m = true := fun m hm => (poss_iff.mp hm).2
def builtM (b : Book) (s : Nat) : List (List Nat) := trimM (poss b s) (fillM (tests b) (poss b s) []).found
theorem fill_ok {n : Nat} {P : List Meet} {ev : List (List Nat)} (hf : Fit n P ev) (he : ev.length ≤ 81) (hs : ∀ m ∈ P, ∃ t ∈ ev, meets t m = true) : FK n P ev [] (fillM ev P []) ∧ (fillM ev P []).left = [] := by
  have h0 : FK n P ev [] ⟨unmetM P [], []⟩ := ⟨hf, he, fun m hm => unmet_sub m hm, by rw [unmet_nil]; exact Nat.le_refl _, hs, fun _ z => by (cases z), by simp [unmet_nil], rfl⟩
  have key : ∀ (k : Nat) (a : FS), FK n P ev [] a → a.left.length ≤ k → FK n P ev [] (iter fillGo (fillStep ev) k a) ∧ (iter fillGo (fillStep ev) k a).left = [] := by
    intro k
    induction k with
    | zero => intro a ha hk; exact ⟨ha, List.eq_nil_of_length_eq_zero (show a.left.length = 0 by omega)⟩
    | succ k ih =>
      intro a ha hk
      unfold iter
      split
      · rename_i hc
        obtain ⟨h1, h2⟩ := ha.step (fillGo_ne hc)
        exact ih _ h1 (by omega)
      · rename_i hc
        refine ⟨ha, ?_⟩
        unfold fillGo at hc
        simpa using hc
  exact key P.length _ h0 (by rw [unmet_nil]; exact Nat.le_refl _)
structure Built (b : Book) (s : Nat) (ts : List (List Nat)) : Prop where
  sub : ∀ t ∈ ts, t ∈ tests b
  few : ts.length ≤ 200
  cov : unmetM (poss b s) ts = []
  need : ∀ i, i < ts.length → unmetM (poss b s) (ts.eraseIdx i) ≠ []
theorem built_ok {b : Book} (h : WF b) {s : Nat} (s1 : 1 ≤ s) (s3 : s ≤ 3) : Built b s (builtM b s) := by
  have hf := fit_of h s1 s3 (ts := tests b) (fun t ht => ht) (by have := tests_len h; omega)
  obtain ⟨h1, h2⟩ := fill_ok hf (tests_len h) poss_met
  have h3 : unmetM (poss b s) (fillM (tests b) (poss b s) []).found = [] := by rw [← h1.left, h2]
  obtain ⟨t1, t2⟩ := trim_facts (poss b s) (fillM (tests b) (poss b s) []).found
  obtain ⟨u1, u2, _⟩ := trimK_sub (poss b s) (fillM (tests b) (poss b s) []).found (List.range (fillM (tests b) (poss b s) []).found.length)
  refine ⟨fun t ht => ?_, ?_, ?_, fun i hi => ?_⟩
  · rcases h1.fsub t (u1 t ht) with z | z
    · exact z
    · cases z
  · have h9 := h1.flen
    have := hf.few
    rw [List.length_nil] at h9
    show (trimM _ _).length ≤ 200
    unfold trimM
    omega
  · unfold builtM; rw [t1, h3]
  · have := t2 i hi
    rw [h3] at this
    exact this
/-- where none is needless, trimming leaves all -/
theorem trim_id {P : List Meet} {ts : List (List Nat)} (h : ∀ i, i < ts.length → unmetM P (ts.eraseIdx i) ≠ unmetM P ts) : trimM P ts = ts := by
  have key : ∀ k, k ≤ ts.length → trimK P ts (List.range k) = ts := by
    intro k
    induction k with
    | zero => intro _; simp [trimK]
    | succ k ih =>
      intro hk
      rw [List.range_succ, trimK_snoc, ih (by omega)]
      unfold tStep
      rw [if_neg (h _ (by omega))]
  exact key _ (Nat.le_refl _)
theorem erase_perm {α : Type} : ∀ (l : List α) (i : Nat) (h : i < l.length), ([l[i]] ++ l.eraseIdx i).Perm l
  | [], _, h => by simp at h
  | x :: l, 0, _ => List.Perm.refl _
  | x :: l, i + 1, h => by
    have hi : i < l.length := by simpa using h
    have ih := erase_perm l i hi
    show (l[i] :: x :: l.eraseIdx i).Perm (x :: l)
    exact (List.Perm.swap x l[i] _).trans (ih.cons x)
/-- an order is a rearrangement -/
theorem ordered_perm {n : Nat} {P : List Meet} {ts : List (List Nat)} (h : Fit n P ts) : (ordered P ts).found.Perm ts := by
  have key : ∀ (k : Nat) (a : OS), a.rest.length ≤ k → (a.found ++ a.rest).Perm ts → (iter ordGo ordStep k a).found.Perm ts := by
    intro k
    induction k with
    | zero =>
      intro a ha hp
      rw [List.eq_nil_of_length_eq_zero (show a.rest.length = 0 by omega), List.append_nil] at hp
      exact hp
    | succ k ih =>
      intro a ha hp
      unfold iter
      split
      · rename_i hc
        have hr := go_rest hc
        refine ih _ (by have := ord_less hr; omega) ?_
        refine List.Perm.trans ?_ hp
        show ((a.found ++ [a.rest.getD (ordAt a) []]) ++ a.rest.eraseIdx (ordAt a)).Perm (a.found ++ a.rest)
        rw [List.append_assoc]
        refine List.Perm.append_left _ ?_
        have hl := ordAt_lt hr
        have e : a.rest.getD (ordAt a) [] = a.rest[ordAt a] := by
          have := ordAt_get hr
          rw [List.getElem?_eq_getElem hl] at this
          exact (Option.some.inj this).symm
        rw [e]
        exact erase_perm _ _ hl
      · rename_i hc
        have : a.rest = [] := by
          unfold ordGo at hc
          simpa using hc
        rw [this, List.append_nil] at hp
        exact hp
  exact key ts.length _ (Nat.le_refl _) (by simp)
theorem unmet_perm {P : List Meet} {a b : List (List Nat)} (h : a.Perm b) : unmetM P a = unmetM P b := by
  unfold unmetM
  refine List.filter_congr fun m _ => ?_
  congr 1
  rw [Bool.eq_iff_iff]
  simp only [List.any_eq_true]
  exact ⟨fun ⟨t, ht, hm⟩ => ⟨t, h.mem_iff.mp ht, hm⟩, fun ⟨t, ht, hm⟩ => ⟨t, h.mem_iff.mpr ht, hm⟩⟩
end DL

/-! The plain part, 20: sorted rows; greater meetings that hold a lesser one. -/
namespace DL
open PySem PySem.Spec PyProof.Rows L2
theorem toksR_inj : ∀ a b : List Nat, PySem.W.keyToksAll (a.map eN) = PySem.W.keyToksAll (b.map eN) → a = b
  | [], [], _ => rfl
  | [], _ :: _, e => by simp [PySem.W.keyToksAll] at e
  | _ :: _, [], e => by simp [PySem.W.keyToksAll] at e
  | p :: a, q :: b, e => by
    simp only [List.map_cons, PySem.W.keyToksAll, eN, PySem.W.keyToks, List.cons_append, List.nil_append, List.cons.injEq, Sum.inl.injEq, true_and] at e
    obtain ⟨e1, e3⟩ := e
    have hpq : p = q := by omega
    rw [toksR_inj a b e3, hpq]
def leR (a b : List Nat) : Bool := dle (eR a) (eR b)
theorem leR_eq (a b : List Nat) : leR a b = !PyProof.Rows.lexLt itemOrd (PySem.W.keyToksAll (b.map eN)) (PySem.W.keyToksAll (a.map eN)) := by
  unfold leR dle eR
  rw [PySem.W.dataLt_tuple]
theorem leR_trans (a b c : List Nat) (h1 : leR a b = true) (h2 : leR b c = true) : leR a c = true := by
  rw [leR_eq, Bool.not_eq_true'] at h1 h2 ⊢
  cases h : PyProof.Rows.lexLt itemOrd (PySem.W.keyToksAll (c.map eN)) (PySem.W.keyToksAll (a.map eN)) with
  | false => rfl
  | true =>
    rcases PyProof.Rows.lex_negTrans _ (PySem.W.keyToksAll (b.map eN)) _ h with h | h
    · rw [h2] at h; cases h
    · rw [h1] at h; cases h
theorem leR_total (a b : List Nat) : (leR a b || leR b a) = true := by
  rw [leR_eq, leR_eq]
  cases h : PyProof.Rows.lexLt itemOrd (PySem.W.keyToksAll (b.map eN)) (PySem.W.keyToksAll (a.map eN)) with
  | false => rfl
  | true =>
    cases h' : PyProof.Rows.lexLt itemOrd (PySem.W.keyToksAll (a.map eN)) (PySem.W.keyToksAll (b.map eN)) with
    | false => simp
    | true =>
      have := PyProof.Rows.lex_trans _ _ _ h h'
      rw [PyProof.Rows.lex_irrefl] at this
      cases this
theorem leR_anti (a b : List Nat) (h1 : leR a b = true) (h2 : leR b a = true) : a = b := by
  rw [leR_eq, Bool.not_eq_true'] at h1 h2
  exact toksR_inj _ _ (PyProof.Rows.lex_total _ _ h2 h1)
theorem sortR_perm {a b : List (List Nat)} (h : a.Perm b) : a.mergeSort leR = b.mergeSort leR :=
  List.Perm.eq_of_pairwise (fun x y _ _ h1 h2 => leR_anti x y h1 h2) (List.pairwise_mergeSort leR_trans leR_total a) (List.pairwise_mergeSort leR_trans leR_total b) (((List.mergeSort_perm a leR).trans h).trans (List.mergeSort_perm b leR).symm)
theorem alike_Rs : ∀ a b : List Nat, PySem.W.alikeAll (a.map eN) (b.map eN) = true
  | [], _ => by simp [PySem.W.alikeAll]
  | _ :: _, [] => by simp [PySem.W.alikeAll]
  | p :: a, q :: b => by simp [PySem.W.alikeAll, PySem.W.alike, eN]; exact alike_Rs a b
theorem sorted_Rs {rs : List (List Nat)} (h : ∀ r ∈ rs, r ≠ []) : sortedD [.list (rs.map eR)] = some ((rs.mergeSort leR).map eR) := by
  have e : sortedD [.list (rs.map eR)] = if (allLike (rs.map eR) && sortsD (rs.map eR) && (rs.map eR).all fun d => decide (d.depth ≤ 60)) = true then some ((rs.map eR).mergeSort dle) else none := rfl
  have h1 : allLike (rs.map eR) = true := by
    unfold allLike
    simp only [List.all_eq_true, List.mem_map, forall_exists_index, and_imp, forall_apply_eq_imp_iff₂]
    intro a _ b _
    simpa [eR, PySem.W.alike] using alike_Rs a b
  have h2 : sortsD (rs.map eR) = true := by
    unfold sortsD
    rw [Bool.or_eq_true]
    left
    simp only [List.all_eq_true, List.mem_map, forall_exists_index, and_imp, forall_apply_eq_imp_iff₂]
    intro a ha
    cases a with
    | nil => exact absurd rfl (h _ ha)
    | cons p a => rfl
  have h3 : ((rs.map eR).all fun d => decide (d.depth ≤ 60)) = true := by
    simp only [List.all_eq_true, List.mem_map, forall_exists_index, and_imp, forall_apply_eq_imp_iff₂]
    intro a _
    exact decide_eq_true (Nat.le_trans (nmR a).2 (by decide))
  rw [e, h1, h2, h3]
  simp only [Bool.and_self, if_true]
  congr 1
  exact (PySem.W.sort_maps eR fun a _ b _ => rfl).symm
/-! ### a greater choice -/
def asc : List Nat → Bool
  | a :: b :: r => decide (a < b) && asc (b :: r)
  | _ => true
def chkUp : Bool := [1, 2, 3, 4].all fun n => [1, 2, 3].all fun s => [1, 2, 3].all fun s' => !(decide (s' ≤ s) && decide (s ≤ n)) || (chosenM n 0 s').all fun ts => (chosenM n 0 s).any fun us => ts.all (us.contains ·)
theorem chkUp_ok : chkUp = true := by decide +kernel
theorem chosen_lt {many : Nat} : ∀ (s least : Nat), ∀ ts ∈ chosenM many least s, (∀ t ∈ ts, least ≤ t ∧ t < many) ∧ ts.Pairwise (· < ·)
  | 0, least, ts, h => by
    simp only [chosenM, List.mem_singleton] at h
    subst h
    simp
  | s + 1, least, ts, h => by
    simp only [chosenM, List.mem_flatMap, List.mem_map] at h
    obtain ⟨f, hf, r, hr, rfl⟩ := h
    rw [List.mem_range'_1] at hf
    obtain ⟨h1, h2⟩ := chosen_lt s (f + 1) r hr
    refine ⟨fun t ht => ?_, List.pairwise_cons.mpr ⟨fun t ht => by have := h1 t ht; omega, h2⟩⟩
    rcases List.mem_cons.mp ht with rfl | ht
    · omega
    · have := h1 t ht; omega
theorem up_choice {n s s' : Nat} (h1 : 1 ≤ n) (h4 : n ≤ 4) (a : 1 ≤ s') (b : s' ≤ s) (c : s ≤ 3) (d : s ≤ n) {ts : List Nat} (ht : ts ∈ chosenM n 0 s') : ∃ us ∈ chosenM n 0 s, ∀ t ∈ ts, t ∈ us := by
  have hn : n ∈ [1, 2, 3, 4] := by
    have : n = 1 ∨ n = 2 ∨ n = 3 ∨ n = 4 := by omega
    rcases this with rfl | rfl | rfl | rfl <;> simp
  have hs : s ∈ [1, 2, 3] := by
    have : s = 1 ∨ s = 2 ∨ s = 3 := by omega
    rcases this with rfl | rfl | rfl <;> simp
  have hs' : s' ∈ [1, 2, 3] := by
    have : s' = 1 ∨ s' = 2 ∨ s' = 3 := by omega
    rcases this with rfl | rfl | rfl <;> simp
  have h := List.all_eq_true.mp (List.all_eq_true.mp (List.all_eq_true.mp chkUp_ok n hn) s hs) s' hs'
  rw [decide_eq_true b, decide_eq_true d] at h
  simp only [Bool.and_self, Bool.not_true, Bool.false_or] at h
  have h := List.all_eq_true.mp h ts ht
  obtain ⟨us, hu, h⟩ := List.any_eq_true.mp h
  exact ⟨us, hu, fun t htt => List.contains_iff_mem.mp (List.all_eq_true.mp h t htt)⟩
/-- what M holds are meetings -/
theorem mrows_fst {lv : List Nat} (things : List Nat) : ∀ m ∈ meetRows lv things, m.map (·.1) = things ∧ ∀ p ∈ m, p.2 < lv.getD p.1 0 := by
  induction things using rows_ind with
  | h0 => simp [meetRows]
  | hs things th ih =>
    intro m hm
    rw [mrows_snoc] at hm
    unfold meetStep at hm
    simp only [List.mem_flatMap, List.mem_map, List.mem_range] at hm
    obtain ⟨r, hr, s, hs, rfl⟩ := hm
    obtain ⟨h1, h2⟩ := ih r hr
    refine ⟨by simp [h1], fun p hp => ?_⟩
    rcases List.mem_append.mp hp with hp | hp
    · exact h2 p hp
    · rw [List.mem_singleton.mp hp]; exact hs
theorem M_things {lv : List Nat} {s : Nat} {m : Meet} (h : m ∈ M lv s) : m.map (·.1) ∈ chosenM lv.length 0 s := by
  have := MF.memM h
  unfold allM at this
  obtain ⟨ts, h1, h2⟩ := List.mem_flatMap.mp this
  rw [(mrows_fst ts m h2).1]
  exact h1
/-- a test that meets a lesser meeting meets a greater one that holds it -/
theorem up_meet {b : Book} (h : WF b) {s s' : Nat} (a : 1 ≤ s') (c : s' ≤ s) (s3 : s ≤ 3) (sl : s ≤ b.1.length) {t : List Nat} (ht : t ∈ rows b.1) {m : Meet} (hm : m ∈ M b.1 s') (hmt : meets t m = true) :
    ∃ m' ∈ M b.1 s, meets t m' = true ∧ ∀ p ∈ m, p ∈ m' := by
  obtain ⟨us, hu, hsub⟩ := up_choice h.wl.lo h.wl.hi a c s3 sl (M_things hm)
  obtain ⟨hlt, hinc⟩ := chosen_lt s 0 us hu
  have htl := rows_mem_len b.1 t ht
  have hul := chosen_len _ _ _ us hu
  have hIs : IsMeet b.1 (us.map fun i => (i, t.getD i 0)) := by
    refine ⟨by rw [List.length_map, hul]; omega, by rw [List.length_map, hul]; omega, by rw [List.pairwise_map]; exact hinc, fun p hp => ?_⟩
    obtain ⟨i, hi, rfl⟩ := List.mem_map.mp hp
    have hit : i < t.length := by rw [htl]; exact (hlt i hi).2
    obtain ⟨l, e1, e2⟩ := rows_at t ht i hit
    refine ⟨l, e1, ?_⟩
    rw [List.getD_eq_getElem?_getD, List.getElem?_eq_getElem hit]
    exact e2
  have hM := mem_M hIs
  rw [List.length_map, hul] at hM
  refine ⟨_, hM, meets_iff.mpr fun p hp => ?_, fun p hp => ?_⟩
  · obtain ⟨i, hi, rfl⟩ := List.mem_map.mp hp
    have hit : i < t.length := by rw [htl]; exact (hlt i hi).2
    rw [List.getD_eq_getElem?_getD, List.getElem?_eq_getElem hit]
    rfl
  · have h1 := meets_iff.mp hmt p hp
    refine List.mem_map.mpr ⟨p.1, hsub p.1 (List.mem_map.mpr ⟨p, hp, rfl⟩), ?_⟩
    rw [List.getD_eq_getElem?_getD, h1]
    rfl
end DL

/-! The plain part, 21: built, as the program finds it. -/
namespace DL
open PySem PySem.Spec PyProof.Rows L2
section
open DM
variable {b : Book} {s : Nat}
theorem m_built (h : WF b) (s1 : 1 ≤ s) (s3 : s ≤ 3) (sl : s ≤ b.1.length) : f_built [eB b, .int (s : Int)] = .ro ((builtM b s).map eR) := by
  have hf := fit_of h s1 s3 (ts := tests b) (fun t ht => ht) (by have := tests_len h; omega)
  obtain ⟨h1, h2⟩ := fill_ok hf (tests_len h) poss_met
  have x1 := m_filled h hf poss_met
  have hlen : (fillM (tests b) (poss b s) []).found.length ≤ 200 := by
    have h9 := h1.flen
    have := hf.few
    rw [List.length_nil] at h9
    omega
  have hf2 : Fit b.1.length (poss b s) (fillM (tests b) (poss b s) []).found := hf.sub (fun t ht => (h1.fsub t ht).elim id fun z => by cases z) (by omega)
  have x2 := m_trimmed_of hf2 (by omega)
  unfold f_built
  rw [runD_eq]
  show ofS (g_built [some (.d (eB b)), some (.d (.int (s : Int))), none]) = _
  unfold g_built
  simp only [seqS_ap, dropS_ap, setS_ap, retO_ap, thenS_ap, callR_ap, callO_ap, frz_ap, disp_ap, asCons_ap, asNil_ap, rd_ap, List.getElem?_cons_succ, List.getElem?_cons_zero, Res.bind_ok, Res.map_ok, List.length_cons, List.length_nil, Nat.zero_add, Nat.reduceAdd, Nat.zero_le, if_true, m_look_strength h s1 s3 sl, m_possible_of h s1 s3, res_rt, res_ro, List.set_cons_succ, List.set_cons_zero, x1, x2, own_ro, ofS_ro]
  rfl
/-- all of a strength met: all of a lesser one too -/
theorem cover_less (h : WF b) {s' : Nat} (a : 1 ≤ s') (c : s' ≤ s) (s3 : s ≤ 3) (sl : s ≤ b.1.length) {ts : List (List Nat)} (e : unmetM (poss b s) ts = []) : unmetM (poss b s') ts = [] := by
  rw [List.eq_nil_iff_forall_not_mem]
  intro m hm
  obtain ⟨h1, h2⟩ := unmet_iff.mp hm
  obtain ⟨hM, t, ht, hmt⟩ := poss_iff.mp h1
  obtain ⟨m', hM', hmt', hsub⟩ := up_meet h a c s3 sl (List.mem_filter.mp ht).1 hM hmt
  have hp : m' ∈ poss b s := poss_iff.mpr ⟨hM', t, ht, hmt'⟩
  have hn : m' ∉ unmetM (poss b s) ts := by rw [e]; simp
  have : ∃ u ∈ ts, meets u m' = true := by
    by_cases hc : ∃ u ∈ ts, meets u m' = true
    · exact hc
    · refine absurd (unmet_iff.mpr ⟨hp, fun u hu => ?_⟩) hn
      cases hz : meets u m' with
      | false => rfl
      | true => exact absurd ⟨u, hu, hz⟩ hc
  obtain ⟨u, hu, hum⟩ := this
  have hmu : meets u m = true := meets_iff.mpr fun p hp => meets_iff.mp hum p (hsub p hp)
  rw [h2 u hu] at hmu
  cases hmu
end
end DL

/-! The plain part, 22: the book cut to three things. -/
namespace DL
open PySem PySem.Spec PyProof.Rows L2
def lastThing (m : Meet) : Nat := (m.getLastD (0, 0)).1
def cutB (b : Book) : Book := (b.1.take 3, b.2.filter fun m => decide (lastThing m < 3))
theorem last_max {m : Meet} (h : m.Pairwise fun p q => p.1 < q.1) : ∀ p ∈ m, p.1 ≤ lastThing m := by
  intro p hp
  have hne : m ≠ [] := fun z => by rw [z] at hp; cases hp
  unfold lastThing
  rw [List.getLastD_eq_getLast?, List.getLast?_eq_some_getLast hne]
  show p.1 ≤ (m.getLast hne).1
  have hm : m.dropLast ++ [m.getLast hne] = m := List.dropLast_concat_getLast hne
  rw [← hm] at hp h
  rcases List.mem_append.mp hp with hp | hp
  · exact Nat.le_of_lt ((List.pairwise_append.mp h).2.2 p hp _ (by simp))
  · rw [List.mem_singleton.mp hp]; exact Nat.le_refl _
theorem cutB_wf {b : Book} (h : WF b) : WF (cutB b) := by
  refine ⟨⟨?_, ?_, fun l hl => h.wl.lev l (List.mem_of_mem_take hl)⟩, ?_, fun m hm => ?_⟩
  · show 1 ≤ (b.1.take 3).length
    have := h.wl.lo
    rw [List.length_take]
    omega
  · show (b.1.take 3).length ≤ 4
    rw [List.length_take]
    omega
  · exact Nat.le_trans (List.length_filter_le _ _) h.bans
  · obtain ⟨h1, h2⟩ := List.mem_filter.mp hm
    have hI := h.ban m h1
    refine ⟨hI.lo, hI.hi, hI.inc, fun p hp => ?_⟩
    obtain ⟨l, e, hl⟩ := hI.at_ p hp
    have h3 := last_max hI.inc p hp
    have h4 := of_decide_eq_true h2
    refine ⟨l, ?_, hl⟩
    show (b.1.take 3)[p.1]? = some l
    rw [List.getElem?_take_of_lt (by omega)]
    exact e
end DL

/-! The plain part, 23: results, suspects, next tests. -/
namespace DL
open PySem PySem.Spec PyProof.Rows L2
def eBs (bs : List Bool) : D := .list (bs.map PyData.bool)
def resM (ts : List (List Nat)) (m : Meet) : List Bool := ts.map fun t => !meets t m
theorem eqvBs : ∀ a b : List Bool, PyData.eqvAll (a.map PyData.bool) (b.map PyData.bool) = decide (a = b)
  | [], [] => by simp [PyData.eqvAll]
  | [], _ :: _ => by simp [PyData.eqvAll]
  | _ :: _, [] => by simp [PyData.eqvAll]
  | x :: a, y :: b => by
    simp only [List.map_cons, PyData.eqvAll, PyData.eqv, eqvBs a b]
    rw [Bool.eq_iff_iff]
    simp
theorem shapedBs (a : List Bool) : SeqAt.shaped (eBs a) = true := by
  have h1 : ∀ a : List Bool, PyData.canLayAll0 (a.map PyData.bool) = true := fun a => by
    induction a with
    | nil => rfl
    | cons x a ih => simp [PyData.canLayAll0, PyData.canLay0, ih]
  have h2 : PyData.depthAll (a.map PyData.bool) ≤ 0 := depthAll_le _ 0 fun x hx => by
    obtain ⟨b, _, rfl⟩ := List.mem_map.mp hx
    simp [PyData.depth]
  have h3 : (PyData.list (a.map PyData.bool)).depth ≤ 64 := by
    simp [PyData.depth]
    omega
  have h4 : (PyData.list (a.map PyData.bool)).canLay0 = true := by simpa [PyData.canLay0] using h1 a
  unfold SeqAt.shaped eBs
  rw [h4, decide_eq_true h3]
  rfl
theorem eqBs (a b : List Bool) : eqD (eBs a) (eBs b) = some (.bool (decide (a = b))) := by
  unfold eqD
  rw [if_pos ⟨shapedBs a, shapedBs b⟩]
  show some (PyData.bool (PyData.eqv (.list (a.map PyData.bool)) (.list (b.map PyData.bool)))) = _
  simp only [PyData.eqv, eqvBs]
/-- the best next test: how many stay at the worst, the test -/
def eBest : Option (Nat × List Nat) → D
  | none => .none
  | some (w, t) => .tuple [eN w, eR t]
def nextStep (ms : List Meet) (best : Option (Nat × List Nat)) (t : List Nat) : Option (Nat × List Nat) :=
  if max (newsM ms t) (ms.length - newsM ms t) < ms.length ∧ (∀ q, best = some q → max (newsM ms t) (ms.length - newsM ms t) < q.1) then some (max (newsM ms t) (ms.length - newsM ms t), t) else best
def nextM (ev : List (List Nat)) (ms : List Meet) : Option (Nat × List Nat) := ev.foldl (nextStep ms) none
section
open DM
theorem m_results_by {n : Nat} {ts : List (List Nat)} {m : Meet} (h : Fit n [m] ts) : f_results_by [eM m, .list (ts.map eR)] = .ro ((resM ts m).map PyData.bool) := by
  have e := lc_map (fi := toSeq (rdB 1)) (t := tgName 2) (c := yes) (e := g_results_by_e1) (vs := [2]) (ρ := [some (.d (eM m)), some (.d (.list (ts.map eR))), none]) (enc := eR) (p := fun _ => true) (g := fun t => .bool (!meets t m)) ts rfl
    fun t ht => ⟨[some (.d (eM m)), some (.d (.list (ts.map eR))), some (.d (eR t))], rfl, rfl, fun _ => by
      unfold g_results_by_e1
      simp only [ofB_ap, notT_ap, toTru_ap, callR_ap, asCons_ap, asNil_ap, rd_ap, List.getElem?_cons_succ, List.getElem?_cons_zero, Res.bind_ok, Res.map_ok, List.length_cons, List.length_nil, Nat.zero_add, Nat.reduceAdd, if_true, m_meets (h.at t ht m (by simp)), res_rt, truD_bool, Res.of_some]⟩
  rw [List.filter_eq_self.mpr (fun _ _ => rfl)] at e
  unfold f_results_by
  rw [runD_eq]
  show ofS (g_results_by [some (.d (eM m)), some (.d (.list (ts.map eR))), none]) = _
  unfold g_results_by
  simp only [retO_ap, thenS_ap, e, ofS_ro]
  unfold resM
  rw [List.map_map]
  rfl
end
end DL

/-! The plain part, 24: suspects. -/
namespace DL
open PySem PySem.Spec PyProof.Rows L2
def suspM (b : Book) (s : Nat) (ts : List (List Nat)) (bs : List Bool) : List Meet := (poss b s).filter fun m => decide (resM ts m = bs)
section
open DM
variable {b : Book} {s : Nat}
theorem m_look_results (h : WF b) (s1 : 1 ≤ s) (s3 : s ≤ 3) (sl : s ≤ b.1.length) {ts : List (List Nat)} (ht : ∀ t ∈ ts, t ∈ tests b) {bs : List Bool} (hl : bs.length = ts.length) : f_look_results [eB b, .int (s : Int), .list (ts.map eR), eBs bs] = .rt .none := by
  have e := lc_map (fi := toSeq (rdB 3)) (t := tgName 4) (c := g_look_results_c1) (e := rd 4) (vs := [4]) (ρ := [some (.d (eB b)), some (.d (.int (s : Int))), some (.d (.list (ts.map eR))), some (.d (eBs bs)), none]) (enc := PyData.bool) (p := fun _ => false) (g := PyData.bool) bs rfl
    fun x hx => ⟨[some (.d (eB b)), some (.d (.int (s : Int))), some (.d (.list (ts.map eR))), some (.d (eBs bs)), some (.d (.bool x))], rfl, rfl, fun z => by cases z⟩
  rw [show bs.filter (fun _ => false) = [] by simp] at e
  have hlen : lenD [eBs bs] = some (.int (ts.length : Int)) := by
    show some (PyData.int ((bs.map PyData.bool).length : Int)) = _
    rw [List.length_map, hl]
  have hisi : isiD "list" (eBs bs) = some true := rfl
  unfold f_look_results
  rw [runD_eq]
  show ofS (g_look_results [some (.d (eB b)), some (.d (.int (s : Int))), some (.d (.list (ts.map eR))), some (.d (eBs bs)), none]) = _
  unfold g_look_results
  simp only [seqS_ap, dropS_ap, ifS_ap, thenS_ap, orT_ap, notT_ap, toTru_ap, toB_ap, isiR_ap, cb_ap, op2_ap, frz_ap, e, callR_ap, asCons_ap, asNil_ap, rd_ap, rdB_ap, List.getElem?_cons_succ, List.getElem?_cons_zero, Res.bind_ok, Res.map_ok, List.length_cons, List.length_nil, Nat.zero_add, Nat.reduceAdd, if_true, m_look_strength h s1 s3 sl, m_look_tests h ht, res_rt, hisi, Option.map_some, Res.of_some, truD_bool, Bool.not_true, Bool.false_eq_true, if_false, hlen, lenD_list, List.length_map, neD_int, decide_true, boolD_bool, truD_list, List.map_nil, List.isEmpty_nil, ofS_nx]
theorem m_suspects_of (h : WF b) (s1 : 1 ≤ s) (s3 : s ≤ 3) {ts : List (List Nat)} (ht : ∀ t ∈ ts, t ∈ tests b) (hl : ts.length ≤ 10000) (bs : List Bool) : f_suspects_of [eB b, .int (s : Int), .list (ts.map eR), eBs bs] = .ro ((suspM b s ts bs).map eM) := by
  have hf := fit_of h s1 s3 ht hl
  have hp : callR 2 f_possible_of (asCons (rd 0) (asCons (rd 1) asNil)) [some (.d (eB b)), some (.d (.int (s : Int))), some (.d (.list (ts.map eR))), some (.d (eBs bs)), none] = .ok (.list ((poss b s).map eM)) := by
    simp only [callR_ap, asCons_ap, asNil_ap, rd_ap, List.getElem?_cons_succ, List.getElem?_cons_zero, Res.bind_ok, Res.map_ok, List.length_cons, List.length_nil, Nat.zero_add, Nat.reduceAdd, if_true, m_possible_of h s1 s3, res_ro]
  have e := lc_map (fi := toSeq (callR 2 f_possible_of (asCons (rd 0) (asCons (rd 1) asNil)))) (t := tgName 4) (c := g_suspects_of_c1) (e := rd 4) (vs := [4]) (ρ := [some (.d (eB b)), some (.d (.int (s : Int))), some (.d (.list (ts.map eR))), some (.d (eBs bs)), none]) (enc := eM) (p := fun m => decide (resM ts m = bs)) (g := eM) (poss b s)
    (by rw [toSeq_ap, hp]; rfl) fun m hm => ⟨[some (.d (eB b)), some (.d (.int (s : Int))), some (.d (.list (ts.map eR))), some (.d (eBs bs)), some (.d (eM m))], rfl, by
      have r := m_results_by (ts := ts) (m := m) ⟨hf.len, fun m' hm' => by rw [List.mem_singleton.mp hm']; exact hf.lt m hm, by simp, hf.ft⟩
      have q := eqBs (resM ts m) bs
      unfold g_suspects_of_c1
      simp only [toB_ap, op2_ap, callR_ap, asCons_ap, asNil_ap, rd_ap, rdB_ap, List.getElem?_cons_succ, List.getElem?_cons_zero, Res.bind_ok, Res.map_ok, List.length_cons, List.length_nil, Nat.zero_add, Nat.reduceAdd, if_true, r, res_ro]
      rw [show (PyData.list ((resM ts m).map PyData.bool)) = eBs (resM ts m) from rfl, q]
      rfl, fun _ => rfl⟩
  unfold f_suspects_of
  rw [runD_eq]
  show ofS (g_suspects_of [some (.d (eB b)), some (.d (.int (s : Int))), some (.d (.list (ts.map eR))), some (.d (eBs bs)), none]) = _
  unfold g_suspects_of
  simp only [retO_ap, thenS_ap, e, ofS_ro]
  rfl
theorem m_suspects (h : WF b) (s1 : 1 ≤ s) (s3 : s ≤ 3) (sl : s ≤ b.1.length) {ts : List (List Nat)} (ht : ∀ t ∈ ts, t ∈ tests b) (hl : ts.length ≤ 10000) {bs : List Bool} (hb : bs.length = ts.length) : f_suspects [eB b, .int (s : Int), .list (ts.map eR), eBs bs] = .ro ((suspM b s ts bs).map eM) := by
  unfold f_suspects
  rw [runD_eq]
  show ofS (g_suspects [some (.d (eB b)), some (.d (.int (s : Int))), some (.d (.list (ts.map eR))), some (.d (eBs bs))]) = _
  unfold g_suspects
  simp only [seqS_ap, dropS_ap, retO_ap, thenS_ap, callR_ap, callO_ap, asCons_ap, asNil_ap, rd_ap, List.getElem?_cons_succ, List.getElem?_cons_zero, Res.bind_ok, Res.map_ok, List.length_cons, List.length_nil, Nat.zero_add, Nat.reduceAdd, if_true, m_look_results h s1 s3 sl ht hb, m_suspects_of h s1 s3 ht hl bs, res_rt, own_ro, ofS_ro]
end
end DL

/-! The plain part, 25: the next test. -/
namespace DL
open PySem PySem.Spec PyProof.Rows L2
@[simp] theorem isN_ap (neg : Bool) (f : Rho → Res D) (ρ : Rho) : isN neg f ρ = (f ρ).map fun d => .bool (neg ^^ isNone d) := rfl
theorem isNone_best (q : Option (Nat × List Nat)) : isNone (eBest q) = q.isNone := by cases q <;> rfl
theorem nextM_snoc (ms : List Meet) (d : List (List Nat)) (t : List Nat) : nextM (d ++ [t]) ms = nextStep ms (nextM d ms) t := by simp [nextM, List.foldl_append]
def eNext : Option (Nat × List Nat) → D
  | none => .none
  | some (_, t) => eR t
section
open DM
theorem b1_next {B0 s t0 bs : Option B} {ms : List Meet} {q : Option (Nat × List Nat)} {t : List Nat} (x0 y0 : Option B) (hm : ∀ m ∈ ms, ∀ p ∈ m, p.1 < t.length) : ∃ x y, g_next_test_b1 [B0, s, t0, bs, some (.d (.list (ms.map eM))), some (.d (eBest q)), some (.d (eR t)), none, x0, y0] = .nx [B0, s, t0, bs, some (.d (.list (ms.map eM))), some (.d (eBest (nextStep ms q t))), some (.d (eR t)), none, x, y] := by
  have e := lc_map (fi := toSeq (rdB 4)) (t := tgName 7) (c := g_next_test_c1) (e := rd 7) (vs := [7]) (ρ := [B0, s, t0, bs, some (.d (.list (ms.map eM))), some (.d (eBest q)), some (.d (eR t)), none, x0, y0]) (enc := eM) (p := fun m => meets t m) (g := eM) ms rfl
    fun m hmm => ⟨[B0, s, t0, bs, some (.d (.list (ms.map eM))), some (.d (eBest q)), some (.d (eR t)), some (.d (eM m)), x0, y0], rfl, by
      unfold g_next_test_c1
      simp only [toTru_ap, callR_ap, asCons_ap, asNil_ap, rd_ap, List.getElem?_cons_succ, List.getElem?_cons_zero, Res.bind_ok, Res.map_ok, List.length_cons, List.length_nil, Nat.zero_add, Nat.reduceAdd, if_true, m_meets (hm m hmm), res_rt, truD_bool, Res.of_some], fun _ => rfl⟩
  have hle : newsM ms t ≤ ms.length := List.length_filter_le _ _
  have hmx : (if ((ms.length : Int) - ((newsM ms t : Nat) : Int)) > ((newsM ms t : Nat) : Int) then ((ms.length : Int) - ((newsM ms t : Nat) : Int)) else ((newsM ms t : Nat) : Int)) = ((max (newsM ms t) (ms.length - newsM ms t) : Nat) : Int) := by
    split <;> omega
  generalize hW : max (newsM ms t) (ms.length - newsM ms t) = W at hmx
  refine ⟨some (.d (.int ((newsM ms t : Nat) : Int))), some (.d (.int (W : Int))), ?_⟩
  unfold g_next_test_b1
  simp only [seqS_ap, setS_ap, ifS_ap, thenS_ap, cb_ap, asCons_ap, asNil_ap, frz_ap, e, Res.map_ok, Res.bind_ok, lenD_list, List.length_map, Res.of_some, List.set_cons_succ, List.set_cons_zero, op2_ap, rdB_ap, List.getElem?_cons_succ, List.getElem?_cons_zero, intD_int, if_true, maxD_int]
  rw [show (ms.filter fun m => meets t m).length = newsM ms t from rfl, hmx]
  simp only [andT_ap, orT_ap, toB_ap, op2_ap, rdB_ap, cb_ap, asCons_ap, asNil_ap, List.getElem?_cons_succ, List.getElem?_cons_zero, Res.bind_ok, Res.map_ok, lenD_list, List.length_map, Res.of_some, cmpI_int, boolD_bool, isN_ap, isNone_best, Bool.false_xor]
  by_cases h1 : W < ms.length
  · rw [decide_eq_true (show (W : Int) < (ms.length : Int) by omega)]
    cases q with
    | none =>
      have hs : nextStep ms none t = some (W, t) := by unfold nextStep; rw [hW]; exact if_pos ⟨h1, fun q hq => by cases hq⟩
      rw [hs]
      simp [eBest, eN]
    | some q =>
      obtain ⟨w, u⟩ := q
      simp only [if_true, Option.isNone_some, Bool.false_eq_true, if_false, eBest, kst_ap, ixD_tup, atI_zero, Res.of_some, Res.bind_ok, eN, cmpI_int, boolD_bool]
      by_cases h2 : W < w
      · have hs : nextStep ms (some (w, u)) t = some (W, t) := by unfold nextStep; rw [hW]; exact if_pos ⟨h1, fun q hq => by cases hq; exact h2⟩
        rw [decide_eq_true (show (W : Int) < (w : Int) by omega), hs]
        simp [eN]
      · have hs : nextStep ms (some (w, u)) t = some (w, u) := by unfold nextStep; rw [hW]; exact if_neg fun z => h2 (z.2 _ rfl)
        rw [decide_eq_false (show ¬ (W : Int) < (w : Int) by omega), hs]
        simp [eN]
  · have hs : nextStep ms q t = q := by unfold nextStep; rw [hW]; exact if_neg fun z => h1 z.1
    rw [decide_eq_false (show ¬ (W : Int) < (ms.length : Int) by omega), hs]
    simp
theorem b1_l_next {t0 : Option B} {ms : List Meet} {q : Option (Nat × List Nat)} {t : List Nat} (x0 y0 : Option B) (hm : ∀ m ∈ ms, ∀ p ∈ m, p.1 < t.length) : ∃ x y, g_l_next_b1 [some (.d (.list (ms.map eM))), t0, some (.d (eBest q)), some (.d (eR t)), none, x0, y0] = .nx [some (.d (.list (ms.map eM))), t0, some (.d (eBest (nextStep ms q t))), some (.d (eR t)), none, x, y] := by
  have e := lc_map (fi := toSeq (rdB 0)) (t := tgName 4) (c := g_l_next_c1) (e := rd 4) (vs := [4]) (ρ := [some (.d (.list (ms.map eM))), t0, some (.d (eBest q)), some (.d (eR t)), none, x0, y0]) (enc := eM) (p := fun m => meets t m) (g := eM) ms rfl
    fun m hmm => ⟨[some (.d (.list (ms.map eM))), t0, some (.d (eBest q)), some (.d (eR t)), some (.d (eM m)), x0, y0], rfl, by
      unfold g_l_next_c1
      simp only [toTru_ap, callR_ap, asCons_ap, asNil_ap, rd_ap, List.getElem?_cons_succ, List.getElem?_cons_zero, Res.bind_ok, Res.map_ok, List.length_cons, List.length_nil, Nat.zero_add, Nat.reduceAdd, if_true, m_l_meets (hm m hmm), res_rt, truD_bool, Res.of_some], fun _ => rfl⟩
  have hle : newsM ms t ≤ ms.length := List.length_filter_le _ _
  have hmx : (if ((ms.length : Int) - ((newsM ms t : Nat) : Int)) > ((newsM ms t : Nat) : Int) then ((ms.length : Int) - ((newsM ms t : Nat) : Int)) else ((newsM ms t : Nat) : Int)) = ((max (newsM ms t) (ms.length - newsM ms t) : Nat) : Int) := by
    split <;> omega
  generalize hW : max (newsM ms t) (ms.length - newsM ms t) = W at hmx
  refine ⟨some (.d (.int ((newsM ms t : Nat) : Int))), some (.d (.int (W : Int))), ?_⟩
  unfold g_l_next_b1
  simp only [seqS_ap, setS_ap, ifS_ap, thenS_ap, cb_ap, asCons_ap, asNil_ap, frz_ap, e, Res.map_ok, Res.bind_ok, lenD_list, List.length_map, Res.of_some, List.set_cons_succ, List.set_cons_zero, op2_ap, rdB_ap, List.getElem?_cons_succ, List.getElem?_cons_zero, intD_int, if_true, maxD_int]
  rw [show (ms.filter fun m => meets t m).length = newsM ms t from rfl, hmx]
  simp only [andT_ap, orT_ap, toB_ap, op2_ap, rdB_ap, cb_ap, asCons_ap, asNil_ap, List.getElem?_cons_succ, List.getElem?_cons_zero, Res.bind_ok, Res.map_ok, lenD_list, List.length_map, Res.of_some, cmpI_int, boolD_bool, isN_ap, isNone_best, Bool.false_xor]
  by_cases h1 : W < ms.length
  · rw [decide_eq_true (show (W : Int) < (ms.length : Int) by omega)]
    cases q with
    | none =>
      have hs : nextStep ms none t = some (W, t) := by unfold nextStep; rw [hW]; exact if_pos ⟨h1, fun q hq => by cases hq⟩
      rw [hs]
      simp [eBest, eN]
    | some q =>
      obtain ⟨w, u⟩ := q
      simp only [if_true, Option.isNone_some, Bool.false_eq_true, if_false, eBest, kst_ap, ixD_tup, atI_zero, Res.of_some, Res.bind_ok, eN, cmpI_int, boolD_bool]
      by_cases h2 : W < w
      · have hs : nextStep ms (some (w, u)) t = some (W, t) := by unfold nextStep; rw [hW]; exact if_pos ⟨h1, fun q hq => by cases hq; exact h2⟩
        rw [decide_eq_true (show (W : Int) < (w : Int) by omega), hs]
        simp [eN]
      · have hs : nextStep ms (some (w, u)) t = some (w, u) := by unfold nextStep; rw [hW]; exact if_neg fun z => h2 (z.2 _ rfl)
        rw [decide_eq_false (show ¬ (W : Int) < (w : Int) by omega), hs]
        simp [eN]
  · have hs : nextStep ms q t = q := by unfold nextStep; rw [hW]; exact if_neg fun z => h1 z.1
    rw [decide_eq_false (show ¬ (W : Int) < (ms.length : Int) by omega), hs]
    simp
variable {b : Book} {s : Nat}
theorem m_next_test (h : WF b) (s1 : 1 ≤ s) (s3 : s ≤ 3) (sl : s ≤ b.1.length) {ts : List (List Nat)} (ht : ∀ t ∈ ts, t ∈ tests b) (hl : ts.length ≤ 10000) {bs : List Bool} (hb : bs.length = ts.length) : f_next_test [eB b, .int (s : Int), .list (ts.map eR), eBs bs] = .rt (eNext (nextM (tests b) (suspM b s ts bs))) := by
  generalize hS : suspM b s ts bs = ms
  have hsub : ∀ m ∈ ms, m ∈ poss b s := fun m hm => by rw [← hS] at hm; exact (List.mem_filter.mp hm).1
  have x1 := m_suspects h s1 s3 sl ht hl hb
  rw [hS] at x1
  have loop : ∃ ρ', forL (tgName 6) g_next_test_b1 ((tests b).map eR) [some (.d (eB b)), some (.d (.int (s : Int))), some (.d (.list (ts.map eR))), some (.d (eBs bs)), some (.d (.list (ms.map eM))), some (.d .none), none, none, none, none] = .nx ρ' ∧
      ∃ x y z, ρ' = [some (.d (eB b)), some (.d (.int (s : Int))), some (.d (.list (ts.map eR))), some (.d (eBs bs)), some (.d (.list (ms.map eM))), some (.d (eBest (nextM (tests b) ms))), x, none, y, z] := by
    refine forL_inv (fun d ρ => ∃ x y z, ρ = [some (.d (eB b)), some (.d (.int (s : Int))), some (.d (.list (ts.map eR))), some (.d (eBs bs)), some (.d (.list (ms.map eM))), some (.d (eBest (nextM d ms))), x, none, y, z]) (tests b) ?_ ⟨none, none, none, rfl⟩
    rintro d t r ρ e ⟨x, y, z, rfl⟩
    have htm : t ∈ tests b := by rw [e]; simp
    obtain ⟨y', z', h2⟩ := b1_next (B0 := some (.d (eB b))) (s := some (.d (.int (s : Int)))) (t0 := some (.d (.list (ts.map eR)))) (bs := some (.d (eBs bs))) (ms := ms) (q := nextM d ms) (t := t) y z (fun m hm => test_lt h s1 s3 htm (poss_iff.mp (hsub m hm)).1)
    exact ⟨_, _, rfl, h2, _, _, _, by rw [nextM_snoc]⟩
  obtain ⟨ρ', h1, x, y, z, rfl⟩ := loop
  unfold f_next_test
  rw [runD_eq]
  show ofS (g_next_test [some (.d (eB b)), some (.d (.int (s : Int))), some (.d (.list (ts.map eR))), some (.d (eBs bs)), none, none, none, none, none, none]) = _
  unfold g_next_test
  simp only [seqS_ap, setS_ap, forS_ap, ifS_ap, retS_ap, thenS_ap, toSeq_ap, toB_ap, isN_ap, callR_ap, asCons_ap, asNil_ap, kst_ap, rd_ap, rdB_ap, List.getElem?_cons_succ, List.getElem?_cons_zero, Res.bind_ok, Res.map_ok, List.length_cons, List.length_nil, Nat.zero_add, Nat.reduceAdd, if_true, x1, m_tests_of h, res_ro, List.set_cons_succ, List.set_cons_zero, seqOf_list, Res.of_some, h1, isNone_best, Bool.false_xor, boolD_bool]
  cases nextM (tests b) ms with
  | none => rfl
  | some q =>
    obtain ⟨w, t⟩ := q
    simp [eBest, eNext]
end
end DL

/-! The plain part, 26: the law's next test. -/
namespace DL
open PySem PySem.Spec PyProof.Rows L2
section
open DM
theorem m_l_next {n : Nat} {ms : List Meet} {ts : List (List Nat)} (hf : Fit n ms ts) : f_l_next [.list (ms.map eM), .list (ts.map eR)] = .rt (eNext (nextM ts ms)) := by
  have loop : ∃ ρ', forL (tgName 3) g_l_next_b1 (ts.map eR) [some (.d (.list (ms.map eM))), some (.d (.list (ts.map eR))), some (.d .none), none, none, none, none] = .nx ρ' ∧
      ∃ x y z, ρ' = [some (.d (.list (ms.map eM))), some (.d (.list (ts.map eR))), some (.d (eBest (nextM ts ms))), x, none, y, z] := by
    refine forL_inv (fun d ρ => ∃ x y z, ρ = [some (.d (.list (ms.map eM))), some (.d (.list (ts.map eR))), some (.d (eBest (nextM d ms))), x, none, y, z]) ts ?_ ⟨none, none, none, rfl⟩
    rintro d t r ρ e ⟨x, y, z, rfl⟩
    have htm : t ∈ ts := by rw [e]; simp
    obtain ⟨y', z', h2⟩ := b1_l_next (t0 := some (.d (.list (ts.map eR)))) (ms := ms) (q := nextM d ms) (t := t) y z (hf.at t htm)
    exact ⟨_, _, rfl, h2, _, _, _, by rw [nextM_snoc]⟩
  obtain ⟨ρ', h1, x, y, z, rfl⟩ := loop
  unfold f_l_next
  rw [runD_eq]
  show ofS (g_l_next [some (.d (.list (ms.map eM))), some (.d (.list (ts.map eR))), none, none, none, none, none]) = _
  unfold g_l_next
  simp only [seqS_ap, setS_ap, forS_ap, ifS_ap, retS_ap, thenS_ap, toSeq_ap, toB_ap, isN_ap, kst_ap, rd_ap, rdB_ap, List.getElem?_cons_succ, List.getElem?_cons_zero, Res.bind_ok, Res.map_ok, List.set_cons_succ, List.set_cons_zero, seqOf_list, Res.of_some, h1, isNone_best, Bool.false_xor, boolD_bool]
  cases nextM ts ms with
  | none => rfl
  | some q =>
    obtain ⟨w, t⟩ := q
    simp [eBest, eNext]
end
/-- what a next test is: it parts what is left -/
theorem nextM_spec (ms : List Meet) (ev : List (List Nat)) : ∀ w t, nextM ev ms = some (w, t) → t ∈ ev ∧ newsM ms t < ms.length ∧ ms.length - newsM ms t < ms.length := by
  suffices ∀ d : List (List Nat), ∀ w t, nextM d ms = some (w, t) → t ∈ d ∧ newsM ms t < ms.length ∧ ms.length - newsM ms t < ms.length from this ev
  intro d
  induction d using (fun {P : List (List Nat) → Prop} (h0 : P []) (hs : ∀ d t, P d → P (d ++ [t])) (d : List (List Nat)) => (by
    suffices ∀ r : List (List Nat), P r.reverse by simpa using this d.reverse
    intro r
    induction r with
    | nil => exact h0
    | cons l r ih => rw [List.reverse_cons]; exact hs _ _ ih : P d)) with
  | h0 => intro w t h; cases h
  | hs d u ih =>
    intro w t h
    rw [nextM_snoc] at h
    unfold nextStep at h
    split at h
    · rename_i hc
      cases h
      exact ⟨by simp, by omega, by omega⟩
    · obtain ⟨h1, h2⟩ := ih w t h
      exact ⟨by simp [h1], h2⟩
end DL

/-! The plain part, 27: going on for one meeting at fault. -/
namespace DL
open PySem PySem.Spec PyProof.Rows L2
/-- what was asked, what is suspected still -/
structure LS where
  asked : List (List Nat)
  ms : List Meet
def lkTest (ev : List (List Nat)) (a : LS) : List Nat := match nextM ev a.ms with
  | some (_, t) => t
  | none => []
def lkGo (ev : List (List Nat)) (a : LS) : Bool := (nextM ev a.ms).isSome
def lkStep (ev : List (List Nat)) (one : Meet) (a : LS) : LS := ⟨a.asked ++ [lkTest ev a], a.ms.filter fun m => meets (lkTest ev a) m == meets (lkTest ev a) one⟩
theorem lk_some {ev : List (List Nat)} {a : LS} (h : lkGo ev a = true) : lkTest ev a ∈ ev ∧ newsM a.ms (lkTest ev a) < a.ms.length ∧ a.ms.length - newsM a.ms (lkTest ev a) < a.ms.length := by
  unfold lkGo at h
  unfold lkTest
  cases hn : nextM ev a.ms with
  | none => rw [hn] at h; cases h
  | some q =>
    obtain ⟨w, t⟩ := q
    exact nextM_spec a.ms ev w t hn
theorem lk_less {ev : List (List Nat)} {one : Meet} {a : LS} (h : lkGo ev a = true) : (lkStep ev one a).ms.length < a.ms.length := by
  obtain ⟨_, h1, h2⟩ := lk_some h
  have h3 := met_nat a.ms (lkTest ev a)
  show (a.ms.filter fun m => meets (lkTest ev a) m == meets (lkTest ev a) one).length < _
  cases hv : meets (lkTest ev a) one with
  | true =>
    have : (a.ms.filter fun m => meets (lkTest ev a) m == true) = a.ms.filter fun m => meets (lkTest ev a) m := List.filter_congr fun m _ => by simp
    rw [this]
    exact h1
  | false =>
    have : (a.ms.filter fun m => meets (lkTest ev a) m == false) = unmetM a.ms [lkTest ev a] := List.filter_congr fun m _ => by simp
    rw [this]
    omega
theorem resM_snoc (ts : List (List Nat)) (t : List Nat) (m : Meet) : resM (ts ++ [t]) m = resM ts m ++ [!meets t m] := by simp [resM]
theorem susp_snoc (b : Book) (s : Nat) (ts : List (List Nat)) (t : List Nat) (one : Meet) : suspM b s (ts ++ [t]) (resM (ts ++ [t]) one) = (suspM b s ts (resM ts one)).filter fun m => meets t m == meets t one := by
  unfold suspM
  rw [List.filter_filter]
  refine List.filter_congr fun m _ => ?_
  rw [Bool.eq_iff_iff]
  simp only [resM_snoc, decide_eq_true_eq, Bool.and_eq_true, beq_iff_eq]
  constructor
  · intro h
    have := List.append_inj h (by simp [resM])
    refine ⟨?_, this.1⟩
    have h2 := (List.cons.inj this.2).1
    cases h3 : meets t m <;> cases h4 : meets t one <;> simp_all
  · rintro ⟨h1, h2⟩
    rw [h2, h1]
end DL

/-! The plain part, 28: how many are looked for at the most. -/
namespace DL
open PySem PySem.Spec PyProof.Rows L2
def looked (b : Book) (s : Nat) (ts : List (List Nat)) (one : Meet) : LS := iter (lkGo (tests b)) (lkStep (tests b) one) 300 ⟨ts, suspM b s ts (resM ts one)⟩
def mostM (b : Book) (s : Nat) (ts : List (List Nat)) (d : List Meet) : Nat := d.foldl (fun k one => max k ((looked b s ts one).asked.length - ts.length)) 0
structure LKI (b : Book) (s : Nat) (ts : List (List Nat)) (one : Meet) (a : LS) : Prop where
  sub : ∀ t ∈ a.asked, t ∈ tests b
  eq : a.ms = suspM b s a.asked (resM a.asked one)
  len : a.asked.length + a.ms.length ≤ ts.length + 200
  ge : ts.length ≤ a.asked.length
theorem susp_len {b : Book} (h : WF b) {s : Nat} (s1 : 1 ≤ s) (s3 : s ≤ 3) (ts : List (List Nat)) (bs : List Bool) : (suspM b s ts bs).length ≤ 200 := by
  have h1 := List.length_filter_le (fun m => decide (resM ts m = bs)) (poss b s)
  have h2 := (fit_of h s1 s3 (ts := []) (fun _ z => by cases z) (by simp)).few
  unfold suspM
  omega
theorem LKI.start {b : Book} (h : WF b) {s : Nat} (s1 : 1 ≤ s) (s3 : s ≤ 3) {ts : List (List Nat)} (ht : ∀ t ∈ ts, t ∈ tests b) (one : Meet) : LKI b s ts one ⟨ts, suspM b s ts (resM ts one)⟩ :=
  ⟨ht, rfl, by have := susp_len h s1 s3 ts (resM ts one); show ts.length + (suspM b s ts (resM ts one)).length ≤ ts.length + 200; omega, Nat.le_refl _⟩
theorem LKI.step {b : Book} {s : Nat} {ts : List (List Nat)} {one : Meet} {a : LS} (h : LKI b s ts one a) (hc : lkGo (tests b) a = true) : LKI b s ts one (lkStep (tests b) one a) := by
  obtain ⟨h1, _, _⟩ := lk_some hc
  have h2 := lk_less (one := one) hc
  have hl := h.len
  refine ⟨fun t ht => ?_, ?_, ?_, ?_⟩
  · rcases List.mem_append.mp ht with ht | ht
    · exact h.sub t ht
    · rw [List.mem_singleton.mp ht]; exact h1
  · show a.ms.filter _ = suspM b s (a.asked ++ [lkTest (tests b) a]) (resM (a.asked ++ [lkTest (tests b) a]) one)
    rw [susp_snoc, ← h.eq]
  · show (a.asked ++ [_]).length + (lkStep (tests b) one a).ms.length ≤ _
    rw [List.length_append, List.length_singleton]
    omega
  · show ts.length ≤ (a.asked ++ [_]).length
    rw [List.length_append]
    have := h.ge
    omega
theorem resM_len (ts : List (List Nat)) (m : Meet) : (resM ts m).length = ts.length := by simp [resM]
theorem flat_best (q : Option (Nat × List Nat)) : flat (eNext q) = true := by
  cases q with
  | none => rfl
  | some q => exact flat_R q.2
section
open DM
variable {b : Book} {s : Nat}
/-- one asking: results, the next test -/
theorem ask_next (h : WF b) (s1 : 1 ≤ s) (s3 : s ≤ 3) (sl : s ≤ b.1.length) {one : Meet} (ho : one ∈ poss b s) {xs : List (List Nat)} (hx : ∀ t ∈ xs, t ∈ tests b) (hl : xs.length ≤ 5000) {t0 m0 y : Option B} :
    lendD 5 (callR 4 f_next_test (asCons (rd 0) (asCons (rd 1) (asCons (rd 5) (asCons (frz (lendO 5 (callO 2 f_results_by (asCons (rd 4) (asCons (rd 5) asNil))))) asNil))))) [some (.d (eB b)), some (.d (.int (s : Int))), t0, m0, some (.d (eM one)), some (.own (xs.map eR)), y] = .ok (eNext (nextM (tests b) (suspM b s xs (resM xs one)))) := by
  have hf := fit_of h s1 s3 hx (by omega)
  have r := m_results_by (ts := xs) (m := one) ⟨hf.len, fun m' hm' => by rw [List.mem_singleton.mp hm']; exact hf.lt one ho, by simp, hf.ft⟩
  have q := m_next_test h s1 s3 sl hx (by omega) (resM_len xs one)
  rw [lendD_own (xs := xs.map eR) rfl]
  have e1 : lendO 5 (callO 2 f_results_by (asCons (rd 4) (asCons (rd 5) asNil))) [some (.d (eB b)), some (.d (.int (s : Int))), t0, m0, some (.d (eM one)), some (.d (.list (xs.map eR))), y] = .ok ((resM xs one).map PyData.bool) := by
    show callO 2 f_results_by (asCons (rd 4) (asCons (rd 5) asNil)) _ = _
    simp only [callO_ap, asCons_ap, asNil_ap, rd_ap, List.getElem?_cons_succ, List.getElem?_cons_zero, Res.bind_ok, Res.map_ok, List.length_cons, List.length_nil, Nat.zero_add, Nat.reduceAdd, if_true, r, own_ro]
  rw [show eBs (resM xs one) = .list ((resM xs one).map PyData.bool) from rfl] at q
  simp only [frzAt_ap, List.getElem?_cons_succ, List.getElem?_cons_zero, List.set_cons_succ, List.set_cons_zero, callR_ap, asCons_ap, asNil_ap, frz_ap, e1, rd_ap, Res.bind_ok, Res.map_ok, List.length_cons, List.length_nil, Nat.zero_add, Nat.reduceAdd, if_true, q, res_rt, flat_best]
end
end DL

/-! The plain part, 29: most_looked. -/
namespace DL
open PySem PySem.Spec PyProof.Rows L2
theorem isNone_next (q : Option (Nat × List Nat)) : isNone (eNext q) = !q.isSome := by
  cases q with
  | none => rfl
  | some q => rfl
section
open DM
variable {b : Book} {s : Nat}
theorem m_most_looked (h : WF b) (s1 : 1 ≤ s) (s3 : s ≤ 3) (sl : s ≤ b.1.length) {ts : List (List Nat)} (ht : ∀ t ∈ ts, t ∈ tests b) (hl : ts.length ≤ 1000) : f_most_looked [eB b, .int (s : Int), .list (ts.map eR)] = .rt (.int ((mostM b s ts (poss b s) : Nat) : Int)) := by
  have loop1 : ∀ one ∈ poss b s, ∀ k : Nat, ∃ ρ', whileS g_most_looked_w1 g_most_looked_b1 [some (.d (eB b)), some (.d (.int (s : Int))), some (.d (.list (ts.map eR))), some (.d (.int (k : Int))), some (.d (eM one)), some (.own (ts.map eR)), some (.d (eNext (nextM (tests b) (suspM b s ts (resM ts one)))))] = .nx ρ' ∧
      ∃ y, ρ' = [some (.d (eB b)), some (.d (.int (s : Int))), some (.d (.list (ts.map eR))), some (.d (.int (k : Int))), some (.d (eM one)), some (.own ((looked b s ts one).asked.map eR)), y] ∧ ts.length ≤ (looked b s ts one).asked.length := by
    intro one ho k
    obtain ⟨ρ', w1, ⟨hi, rfl⟩, _⟩ := while_iter (w := g_most_looked_w1) (b := g_most_looked_b1) (fun (a : LS) ρ => LKI b s ts one a ∧ ρ = [some (.d (eB b)), some (.d (.int (s : Int))), some (.d (.list (ts.map eR))), some (.d (.int (k : Int))), some (.d (eM one)), some (.own (a.asked.map eR)), some (.d (eNext (nextM (tests b) a.ms)))]) (lkGo (tests b)) (lkStep (tests b) one) (fun a => a.ms.length)
      (fun a ρ ⟨_, e⟩ => by
        subst e
        unfold g_most_looked_w1 lkGo
        simp only [toB_ap, isN_ap, rdB_ap, List.getElem?_cons_succ, List.getElem?_cons_zero, Res.bind_ok, Res.map_ok, isNone_next, boolD_bool, Res.of_some, Bool.true_xor, Bool.not_not])
      (fun a ρ ⟨ha, e⟩ hc => by
        subst e
        have hst := ha.step hc
        have hlen := hst.len
        refine ⟨lk_less hc, _, ?_, hst, rfl⟩
        have hz : a.asked.length < sizeLine := by have := ha.len; have := sizeLine_big; omega
        have he : eNext (nextM (tests b) a.ms) = eR (lkTest (tests b) a) := by
          unfold lkGo at hc
          unfold lkTest
          cases hn : nextM (tests b) a.ms with
          | none => rw [hn] at hc; cases hc
          | some q => rfl
        have q := ask_next h s1 s3 sl ho (xs := (lkStep (tests b) one a).asked) hst.sub (by omega) (t0 := some (.d (.list (ts.map eR)))) (m0 := some (.d (.int (k : Int)))) (y := some (.d (eR (lkTest (tests b) a))))
        rw [← hst.eq] at q
        unfold g_most_looked_b1
        rw [he, seqS_ap, appS_own (xs := a.asked.map eR) _ rfl]
        simp only [thenS_ap, rd_ap, List.getElem?_cons_succ, List.getElem?_cons_zero, List.length_map, hz, if_true, List.set_cons_succ, List.set_cons_zero, setS_ap]
        rw [show (a.asked.map eR ++ [eR (lkTest (tests b) a)]) = (lkStep (tests b) one a).asked.map eR by simp [lkStep], q]) 300 ⟨ts, suspM b s ts (resM ts one)⟩ _ (by have := susp_len h s1 s3 ts (resM ts one); show (suspM b s ts (resM ts one)).length ≤ 300; omega) ⟨LKI.start h s1 s3 ht one, rfl⟩
    exact ⟨_, w1, _, rfl, hi.ge⟩
  have loop2 : ∃ ρ', forL (tgName 4) g_most_looked_b2 ((poss b s).map eM) [some (.d (eB b)), some (.d (.int (s : Int))), some (.d (.list (ts.map eR))), some (.d (.int 0)), none, none, none] = .nx ρ' ∧
      ∃ x y z, ρ' = [some (.d (eB b)), some (.d (.int (s : Int))), some (.d (.list (ts.map eR))), some (.d (.int ((mostM b s ts (poss b s) : Nat) : Int))), x, y, z] := by
    refine forL_inv (fun d ρ => ∃ x y z, ρ = [some (.d (eB b)), some (.d (.int (s : Int))), some (.d (.list (ts.map eR))), some (.d (.int ((mostM b s ts d : Nat) : Int))), x, y, z]) (poss b s) ?_ ⟨none, none, none, rfl⟩
    rintro d one r ρ e ⟨x, y, z, rfl⟩
    have ho : one ∈ poss b s := by rw [e]; simp
    obtain ⟨ρ', w1, y', rfl, hge⟩ := loop1 one ho (mostM b s ts d)
    have q := ask_next h s1 s3 sl ho (xs := ts) ht (by omega) (t0 := some (.d (.list (ts.map eR)))) (m0 := some (.d (.int ((mostM b s ts d : Nat) : Int)))) (y := z)
    refine ⟨_, [some (.d (eB b)), some (.d (.int (s : Int))), some (.d (.list (ts.map eR))), some (.d (.int ((mostM b s ts (d ++ [one]) : Nat) : Int))), some (.d (eM one)), some (.own ((looked b s ts one).asked.map eR)), y'], rfl, ?_, _, _, _, rfl⟩
    show g_most_looked_b2 [some (.d (eB b)), some (.d (.int (s : Int))), some (.d (.list (ts.map eR))), some (.d (.int ((mostM b s ts d : Nat) : Int))), some (.d (eM one)), y, z] = _
    have hm : mostM b s ts (d ++ [one]) = max (mostM b s ts d) ((looked b s ts one).asked.length - ts.length) := by simp [mostM, List.foldl_append]
    have hmx : maxD [.int ((mostM b s ts d : Nat) : Int), .int (((looked b s ts one).asked.length : Int) - (ts.length : Int))] = some (.int ((mostM b s ts (d ++ [one]) : Nat) : Int)) := by
      rw [maxD_int, hm]
      congr 2
      split <;> omega
    unfold g_most_looked_b2
    simp only [seqS_ap, setO_ap, setS_ap, thenS_ap, cb_ap, asCons_ap, asNil_ap, rdB_ap, List.getElem?_cons_succ, List.getElem?_cons_zero, Res.bind_ok, Res.map_ok, toListD_list, Res.of_some, List.set_cons_succ, List.set_cons_zero, q, w1, op2_ap, lenD_list, List.length_map, intD_int, if_true, hmx]
  obtain ⟨ρ', h1, x, y, z, rfl⟩ := loop2
  unfold f_most_looked
  rw [runD_eq]
  show ofS (g_most_looked [some (.d (eB b)), some (.d (.int (s : Int))), some (.d (.list (ts.map eR))), none, none, none, none]) = _
  unfold g_most_looked
  simp only [seqS_ap, dropS_ap, setS_ap, forS_ap, retS_ap, thenS_ap, toSeq_ap, callR_ap, asCons_ap, asNil_ap, kst_ap, rd_ap, List.getElem?_cons_succ, List.getElem?_cons_zero, Res.bind_ok, Res.map_ok, List.length_cons, List.length_nil, Nat.zero_add, Nat.reduceAdd, if_true, m_look_strength h s1 s3 sl, m_look_tests h ht, m_possible_of h s1 s3, res_rt, res_ro, List.set_cons_succ, List.set_cons_zero, seqOf_list, Res.of_some, h1, ofS_rt]
end
end DL

/-! The plain part, 30: bits for the law on next tests. -/
namespace DL
open PySem PySem.Spec PyProof.Rows L2
def mineM (ts : List (List Nat)) (m : Meet) : List Bool := ts.map fun t => meets t m
theorem mine_res (ts : List (List Nat)) (a b : Meet) : mineM ts a = mineM ts b ↔ resM ts a = resM ts b := by
  have e : ∀ m, resM ts m = (mineM ts m).map not := fun m => by simp [resM, mineM]
  have e' : ∀ m, mineM ts m = (resM ts m).map not := fun m => by simp [resM, mineM]
  constructor
  · intro h; rw [e, e, h]
  · intro h; rw [e', e', h]
theorem ne_next (q : Option (Nat × List Nat)) : neD (eNext q) (eNext q) = some (.bool false) := by
  cases q with
  | none =>
    have h : SeqAt.shaped .none = true := by simp [SeqAt.shaped, PyData.canLay0, PyData.depth]
    show neD .none .none = _
    unfold neD
    rw [if_pos ⟨h, h⟩]
    simp [PyData.eqv]
  | some q => exact ne_same (nmR q.2) (by decide)
section
open DM
theorem l_lists {n : Nat} {ts : List (List Nat)} {m : Meet} (h : Fit n [m] ts) : ∀ t ∈ ts, f_l_meets [eR t, eM m] = .rt (.bool (meets t m)) := fun t ht => m_l_meets (h.at t ht m (by simp))
end
end DL

/-! The plain part, 31: the book cut to some things, by the law's text; what is drawn out of a list. -/
namespace DL
open PySem PySem.Spec PyProof.Rows L2
def cutN (k : Nat) (b : Book) : Book := (b.1.take k, b.2.filter fun m => decide (lastThing m < k))
theorem cutN_wf {b : Book} (h : WF b) {k : Nat} (hk : 1 ≤ k) : WF (cutN k b) := by
  refine ⟨⟨?_, ?_, fun l hl => h.wl.lev l (List.mem_of_mem_take hl)⟩, ?_, fun m hm => ?_⟩
  · show 1 ≤ (b.1.take k).length
    have := h.wl.lo
    rw [List.length_take]
    omega
  · show (b.1.take k).length ≤ 4
    have := h.wl.hi
    rw [List.length_take]
    omega
  · exact Nat.le_trans (List.length_filter_le _ _) h.bans
  · obtain ⟨h1, h2⟩ := List.mem_filter.mp hm
    have hI := h.ban m h1
    refine ⟨hI.lo, hI.hi, hI.inc, fun p hp => ?_⟩
    obtain ⟨l, e, hl⟩ := hI.at_ p hp
    have h3 := last_max hI.inc p hp
    have h4 := of_decide_eq_true h2
    refine ⟨l, ?_, hl⟩
    show (b.1.take k)[p.1]? = some l
    rw [List.getElem?_take_of_lt (by omega)]
    exact e
theorem eB_cutN (k : Nat) (b : Book) : PyData.tuple [.tuple ((b.1.map eN).take k), .tuple ((b.2.filter fun m => decide (lastThing m < k)).map eM)] = eB (cutN k b) := by
  simp [eB, cutN, eR, List.map_take]
theorem last_ix {m : Meet} (h : m ≠ []) : ixD (eM m) (.int (-1)) = some (eP (m.getLastD (0, 0))) := by
  have e : m.dropLast ++ [m.getLast h] = m := List.dropLast_concat_getLast h
  have e2 : m.getLastD (0, 0) = m.getLast h := by rw [List.getLastD_eq_getLast?, List.getLast?_eq_some_getLast h]; rfl
  rw [e2]
  show atI (m.map eP) (-1) = _
  conv => lhs; rw [← e]
  rw [List.map_append]
  exact L2.atI_last _ _
theorem ixP0 (p : Nat × Nat) : ixD (eP p) (.int 0) = some (.int (p.1 : Int)) := by simp [eP, eN]
theorem ixP1 (p : Nat × Nat) : ixD (eP p) (.int 1) = some (.int (p.2 : Int)) := by simp [eP, eN]
theorem IsMeet.ne {lv : List Nat} {m : Meet} (h : IsMeet lv m) : m ≠ [] := fun z => by
  have := h.lo
  rw [z] at this
  exact absurd this (by decide)
theorem eB0 (b : Book) : ixD (eB b) (.int 0) = some (.tuple (b.1.map eN)) := by simp [eB, eR]
theorem eB1 (b : Book) : ixD (eB b) (.int 1) = some (.tuple (b.2.map eM)) := by simp [eB]
theorem cutD_tup_to (xs : List D) (i : Nat) : cutD (.tuple xs) none (some (i : Int)) = some (.tuple (xs.take i)) := by
  show some (PyData.tuple (cutG xs none (some (i : Int)))) = _
  rw [cut_to]
theorem pick {α : Type} (xs : List α) (h : xs ≠ []) (c : Int) : ∃ (i : Nat) (x : α), xs[i]? = some x ∧ x ∈ xs ∧ modD (.int c) (.int (xs.length : Int)) = some (.int (i : Int)) := by
  have hl : 0 < xs.length := List.length_pos_iff.mpr h
  have a := Int.emod_nonneg c (show (xs.length : Int) ≠ 0 by omega)
  have d := Int.emod_lt_of_pos c (show (0 : Int) < (xs.length : Int) by omega)
  obtain ⟨i, hi⟩ : ∃ i : Nat, c % (xs.length : Int) = (i : Int) := ⟨(c % (xs.length : Int)).toNat, by omega⟩
  have hlt : i < xs.length := by omega
  refine ⟨i, xs[i], List.getElem?_eq_getElem hlt, List.getElem_mem hlt, ?_⟩
  rw [← hi]
  show (if (decide ((0 : Int) < (xs.length : Int))) = true then some (PyData.int (c % (xs.length : Int))) else none) = _
  rw [if_pos (by simpa using hl)]
theorem nextM_nil (ev : List (List Nat)) : nextM ev [] = none := by
  cases h : nextM ev [] with
  | none => rfl
  | some q =>
    obtain ⟨w, t⟩ := q
    have := (nextM_spec [] ev w t h).2.1
    exact absurd this (by simp)
end DL

/-! The plain part, 32: dicts by mirror: keys of any kind, values of any kind. -/
namespace DL
open PySem PySem.Spec PyProof.Rows L2
@[simp] theorem dctR_dct {α : Type} {i : Nat} {ρ : Rho} {kvs : List (D × D)} (k : List (D × D) → Rho → Res α) (h : ρ[i]? = some (some (.dct kvs))) : dctR i k ρ = k kvs ρ := by
  unfold dctR
  rw [h]
structure KeyOK {κ : Type} (ek : κ → D) : Prop where
  inj : ∀ a b, keyOf (ek a) = keyOf (ek b) ↔ a = b
  ok : ∀ a, okKey (ek a) = true
section
variable {κ α : Type} [DecidableEq κ]
def encE (ek : κ → D) (ev : α → D) (c : κ × α) : D × D := (ek c.1, ev c.2)
def valE (cs : List (κ × α)) (k : κ) : Option α := (cs.find? fun c => decide (c.1 = k)).map (·.2)
def putE (cs : List (κ × α)) (k : κ) (v : α) : List (κ × α) := if (cs.any fun c => decide (c.1 = k)) = true then cs.map (fun c => if c.1 = k then (c.1, v) else c) else cs ++ [(k, v)]
variable {ek : κ → D} {ev : α → D}
theorem get_enc (h : KeyOK ek) (cs : List (κ × α)) (k : κ) : getK (cs.map (encE ek ev)) (ek k) = (valE cs k).map ev := by
  unfold getK valE
  induction cs with
  | nil => rfl
  | cons c cs ih =>
    rw [List.map_cons, List.find?_cons, List.find?_cons]
    have e : decide (keyOf (encE ek ev c).1 = keyOf (ek k)) = decide (c.1 = k) := decide_eq_decide.mpr (h.inj _ _)
    rw [e]
    cases decide (c.1 = k) with
    | true => rfl
    | false => exact ih
theorem has_enc (h : KeyOK ek) (cs : List (κ × α)) (k : κ) : hasK (cs.map (encE ek ev)) (ek k) = cs.any fun c => decide (c.1 = k) := by
  unfold hasK
  rw [List.any_map]
  congr 1
  funext c
  exact decide_eq_decide.mpr (h.inj _ _)
theorem put_enc (h : KeyOK ek) (cs : List (κ × α)) (k : κ) (v : α) : putK (cs.map (encE ek ev)) (ek k) (ev v) = (putE cs k v).map (encE ek ev) := by
  unfold putK putE
  rw [has_enc h]
  cases (cs.any fun c => decide (c.1 = k)) with
  | true =>
    rw [if_pos rfl, if_pos rfl, List.map_map, List.map_map]
    apply List.map_congr_left
    intro c _
    show (if keyOf (ek c.1) = keyOf (ek k) then (ek c.1, ev v) else (ek c.1, ev c.2)) = encE ek ev (if c.1 = k then (c.1, v) else c)
    by_cases e : c.1 = k
    · rw [if_pos ((h.inj _ _).mpr e), if_pos e]; rfl
    · rw [if_neg (fun z => e ((h.inj _ _).mp z)), if_neg e]; rfl
  | false => rw [if_neg (by decide), if_neg (by decide), List.map_append]; rfl
theorem putE_len (cs : List (κ × α)) (k : κ) (v : α) : (putE cs k v).length ≤ cs.length + 1 := by
  unfold putE
  split
  · rw [List.length_map]; omega
  · rw [List.length_append]; simp
theorem putE_mem {cs : List (κ × α)} {k : κ} {v : α} {c : κ × α} (h : c ∈ putE cs k v) : c = (k, v) ∨ (c ∈ cs ∧ c.1 ≠ k) := by
  unfold putE at h
  split at h
  · obtain ⟨c', hc, rfl⟩ := List.mem_map.mp h
    by_cases e : c'.1 = k
    · rw [if_pos e]; exact .inl (by rw [e])
    · rw [if_neg e]; exact .inr ⟨hc, e⟩
  · rename_i hn
    rcases List.mem_append.mp h with h | h
    · refine .inr ⟨h, fun e => hn ?_⟩
      exact List.any_eq_true.mpr ⟨c, h, decide_eq_true e⟩
    · exact .inl (List.mem_singleton.mp h)
theorem valE_mem {cs : List (κ × α)} {k : κ} {v : α} (h : valE cs k = some v) : (k, v) ∈ cs := by
  unfold valE at h
  obtain ⟨c, hc, rfl⟩ := Option.map_eq_some_iff.mp h
  have h1 := List.mem_of_find?_eq_some hc
  have h2 : c.1 = k := by simpa using List.find?_some hc
  rw [← h2]
  exact h1
theorem valE_has {cs : List (κ × α)} {c : κ × α} (h : c ∈ cs) : ∃ v, valE cs c.1 = some v := by
  unfold valE
  cases hf : cs.find? fun c' => decide (c'.1 = c.1) with
  | none => exact absurd (decide_eq_true rfl) (List.find?_eq_none.mp hf c h)
  | some c' => exact ⟨c'.2, rfl⟩
end
theorem keysOf_N : ∀ r : List Nat, keysOf (r.map eN) = some (r.map fun n : Nat => NestedKey.num (n : Int))
  | [] => rfl
  | n :: r => by rw [List.map_cons, keysOf, keysOf_N r]; rfl
theorem depthAll_num : ∀ xs : List Int, NestedKey.depthAll (xs.map NestedKey.num) = 0
  | [] => rfl
  | x :: xs => by rw [List.map_cons, NestedKey.depthAll, depthAll_num xs]; rfl
theorem keyR : KeyOK eR := ⟨fun a b => by
  have e : ∀ r, keyOf (eR r) = some (.tup (r.map fun n : Nat => NestedKey.num (n : Int))) := fun r => by unfold eR; rw [keyOf, keysOf_N]; rfl
  rw [e, e]
  constructor
  · intro h
    have h := NestedKey.tup.inj (Option.some.inj h)
    exact map_inj (fun x y z => by have := NestedKey.num.inj z; omega) h
  · rintro rfl; rfl, fun a => by
  show (match keysOf (a.map eN) with
    | some ks => decide ((NestedKey.tup ks).depth ≤ 8)
    | none => false) = true
  rw [keysOf_N]
  have : (a.map fun n : Nat => NestedKey.num (n : Int)) = (a.map fun n : Nat => (n : Int)).map NestedKey.num := by rw [List.map_map]; rfl
  rw [this]
  refine decide_eq_true ?_
  rw [NestedKey.depth, depthAll_num]
  omega⟩
def eBk (bs : List Bool) : D := .tuple (bs.map PyData.bool)
theorem keysOf_B : ∀ r : List Bool, keysOf (r.map PyData.bool) = some (r.map fun b => NestedKey.num (if b = true then 1 else 0))
  | [] => rfl
  | n :: r => by rw [List.map_cons, keysOf, keysOf_B r]; rfl
theorem keyB : KeyOK eBk := ⟨fun a b => by
  have e : ∀ r, keyOf (eBk r) = some (.tup (r.map fun b => NestedKey.num (if b = true then 1 else 0))) := fun r => by unfold eBk; rw [keyOf, keysOf_B]; rfl
  rw [e, e]
  constructor
  · intro h
    have h := NestedKey.tup.inj (Option.some.inj h)
    exact map_inj (fun x y z => by have := NestedKey.num.inj z; cases x <;> cases y <;> simp at this ⊢) h
  · rintro rfl; rfl, fun a => by
  show (match keysOf (a.map PyData.bool) with
    | some ks => decide ((NestedKey.tup ks).depth ≤ 8)
    | none => false) = true
  rw [keysOf_B]
  have : (a.map fun b => NestedKey.num (if b = true then 1 else 0)) = (a.map fun b => if b = true then (1 : Int) else 0).map NestedKey.num := by rw [List.map_map]; rfl
  rw [this]
  refine decide_eq_true ?_
  rw [NestedKey.depth, depthAll_num]
  omega⟩
/-! ### greatest of a list -/
theorem maxD_mem (x : D) (xs : List D) : PySem.W.maxD x xs ∈ x :: xs := by
  unfold PySem.W.maxD
  induction xs generalizing x with
  | nil => simp
  | cons y xs ih =>
    rw [List.foldl_cons]
    rcases List.mem_cons.mp (ih (if PySem.W.dataLt x y = true then y else x)) with h | h
    · rw [h]; split <;> simp
    · simp [h]
theorem minD_mem (x : D) (xs : List D) : PySem.W.minD x xs ∈ x :: xs := by
  unfold PySem.W.minD
  induction xs generalizing x with
  | nil => simp
  | cons y xs ih =>
    rw [List.foldl_cons]
    rcases List.mem_cons.mp (ih (if PySem.W.dataLt y x = true then y else x)) with h | h
    · rw [h]; split <;> simp
    · simp [h]
theorem fit_N (ns : List Nat) : fitMin (ns.map eN) = true := by
  unfold fitMin
  rw [Bool.and_eq_true, Bool.and_eq_true]
  refine ⟨⟨?_, ?_⟩, ?_⟩
  · unfold allLike
    simp only [List.all_eq_true, List.mem_map]
    rintro _ ⟨a, _, rfl⟩ _ ⟨b, _, rfl⟩
    rfl
  · simp only [List.all_eq_true, List.mem_map]
    rintro _ ⟨a, _, rfl⟩
    rfl
  · simp only [List.all_eq_true, List.mem_map]
    rintro _ ⟨a, _, rfl⟩
    simp [eN, PyData.depth]
/-- max(ns, default=0) is some number; no more than all are -/
theorem maxDef_N {g h : Rho → Res D} {ρ : Rho} {ns : List Nat} {c : Nat} (hg : g ρ = .ok (.list (ns.map eN))) (hh : h ρ = .ok (.int 0)) (hc : ∀ n ∈ ns, n ≤ c) : ∃ m : Nat, m ≤ c ∧ maxDefR g h ρ = .ok (.int (m : Int)) := by
  unfold maxDefR
  rw [hg, Res.bind_ok, hh, Res.bind_ok]
  simp only [fit_N, if_true]
  cases ns with
  | nil => exact ⟨0, Nat.zero_le _, rfl⟩
  | cons n ns =>
    have h1 := maxD_mem (eN n) (ns.map eN)
    rw [← List.map_cons, List.mem_map] at h1
    obtain ⟨m, hm, e⟩ := h1
    exact ⟨m, hc m hm, by rw [List.map_cons]; simp only; rw [← e]; rfl⟩
end DL

/-! The plain part, 33: no fewer tests than meetings that are apart. -/
namespace DL
open PySem PySem.Spec PyProof.Rows L2
theorem putM_nodup {ks : List Meet} (h : ks.Nodup) (m : Meet) : (putM ks m).Nodup := by
  unfold putM
  by_cases hc : ks.contains m = true
  · rw [if_pos hc]; exact h
  · rw [if_neg hc]
    rw [List.nodup_append]
    refine ⟨h, by simp, fun a ha b hb e => ?_⟩
    rw [List.mem_singleton.mp hb] at e
    subst e
    exact hc (List.contains_iff_mem.mpr ha)
theorem foldl_nodup (xs : List Meet) : ∀ {ks : List Meet}, ks.Nodup → (xs.foldl putM ks).Nodup := by
  induction xs with
  | nil => exact fun h => h
  | cons x xs ih => exact fun h => ih (putM_nodup h x)
theorem lawKeys_nodup (lv : List Nat) (s : Nat) : (lawKeys lv s).Nodup := by
  unfold lawKeys
  suffices ∀ (rs : List Row) (ks : List Meet), ks.Nodup → (rs.foldl (fun ks r => ((subs r).filter fun m => m.length == s).foldl putM ks) ks).Nodup from this _ _ List.nodup_nil
  intro rs
  induction rs with
  | nil => exact fun ks h => h
  | cons r rs ih => exact fun ks h => ih _ (foldl_nodup _ h)
theorem M_nodup {lv : List Nat} (h : WL lv) {s : Nat} (s1 : 1 ≤ s) (s3 : s ≤ 3) : (M lv s).Nodup :=
  (List.mergeSort_perm _ _).nodup_iff.mpr ((mf_of h s1 s3).perm.nodup_iff.mpr (lawKeys_nodup lv s))
theorem poss_nodup {b : Book} (h : WF b) {s : Nat} (s1 : 1 ≤ s) (s3 : s ≤ 3) : (poss b s).Nodup := (M_nodup h.wl s1 s3).filter _
/-- two meetings that no test of some meets both -/
def Apart (ts : List (List Nat)) (m m' : Meet) : Prop := ∀ t ∈ ts, meets t m = true → meets t m' = false
theorem apart_le : ∀ (C : List Meet) (ts : List (List Nat)), C.Pairwise (Apart ts) → (∀ m ∈ C, ∃ t ∈ ts, meets t m = true) → C.length ≤ ts.length
  | [], _, _, _ => Nat.zero_le _
  | m :: C, ts, h, hm => by
    obtain ⟨t, ht, hmt⟩ := hm m (by simp)
    rw [List.pairwise_cons] at h
    have ih := apart_le C (ts.erase t) (h.2.imp fun hh t' ht' => hh t' (List.mem_of_mem_erase ht')) fun m' hm' => by
      obtain ⟨t', ht', hmt'⟩ := hm m' (List.mem_cons_of_mem _ hm')
      refine ⟨t', ?_, hmt'⟩
      have hne : t' ≠ t := fun e => by
        have := h.1 m' hm' t ht hmt
        rw [← e, hmt'] at this
        cases this
      exact (List.mem_erase_of_ne hne).mpr ht'
    rw [List.length_erase_of_mem ht] at ih
    have : 0 < ts.length := List.length_pos_of_mem ht
    rw [List.length_cons]
    omega
theorem same_things {t : List Nat} : ∀ {a b : Meet}, a.map (·.1) = b.map (·.1) → meets t a = true → meets t b = true → a = b
  | [], [], _, _, _ => rfl
  | [], _ :: _, h, _, _ => by simp at h
  | _ :: _, [], h, _, _ => by simp at h
  | p :: a, q :: b, h, ha, hb => by
    simp only [List.map_cons, List.cons.injEq] at h
    have h1 := meets_iff.mp ha
    have h2 := meets_iff.mp hb
    have e1 := h1 p (by simp)
    have e2 := h2 q (by simp)
    rw [h.1] at e1
    rw [e1] at e2
    have e3 : p = q := Prod.ext h.1 (Option.some.inj e2)
    rw [e3, same_things h.2 (meets_iff.mpr fun x hx => h1 x (by simp [hx])) (meets_iff.mpr fun x hx => h2 x (by simp [hx]))]
theorem cov_all {P : List Meet} {ts : List (List Nat)} (h : unmetM P ts = []) : ∀ m ∈ P, ∃ t ∈ ts, meets t m = true := fun m hm => by
  cases hc : ts.any fun t => meets t m with
  | true =>
    obtain ⟨t, ht, h2⟩ := List.any_eq_true.mp hc
    exact ⟨t, ht, h2⟩
  | false =>
    have : m ∈ unmetM P ts := unmet_iff.mpr ⟨hm, fun t ht => by
      rw [List.any_eq_false] at hc
      have := hc t ht
      cases hb : meets t m with
      | true => exact absurd hb this
      | false => rfl⟩
    rw [h] at this
    cases this
def ofThings (P : List Meet) (k : List Nat) : Nat := (P.filter fun m => decide (m.map (·.1) = k)).length
theorem class_le {b : Book} (h : WF b) {s : Nat} (s1 : 1 ≤ s) (s3 : s ≤ 3) {ts : List (List Nat)} (cov : unmetM (poss b s) ts = []) (k : List Nat) : ofThings (poss b s) k ≤ ts.length := by
  refine apart_le _ ts ?_ fun m hm => cov_all cov m (List.mem_filter.mp hm).1
  have hn : ((poss b s).filter fun m => decide (m.map (·.1) = k)).Nodup := (poss_nodup h s1 s3).filter _
  refine List.Pairwise.imp_of_mem ?_ hn
  intro a c ha hc hne t _ hta
  cases htc : meets t c with
  | false => rfl
  | true =>
    have e1 := of_decide_eq_true (List.mem_filter.mp ha).2
    have e2 := of_decide_eq_true (List.mem_filter.mp hc).2
    exact absurd (same_things (e1.trans e2.symm) hta htc) hne
theorem ofThings_snoc (d : List Meet) (m : Meet) (k : List Nat) : ofThings (d ++ [m]) k = ofThings d k + if m.map (·.1) = k then 1 else 0 := by
  unfold ofThings
  rw [List.filter_append, List.length_append]
  congr 1
  by_cases e : m.map (·.1) = k
  · rw [if_pos e, List.filter_cons_of_pos (by simpa using e)]; rfl
  · rw [if_neg e, List.filter_cons_of_neg (by simpa using e)]; rfl
end DL

/-! The plain part, 34: what is a book, of any data. -/
namespace DL
open PySem PySem.Spec PyProof.Rows L2
/-- not a dict -/
def nd : D → Bool
  | .dict _ => false
  | _ => true
def withinB (d : D) (lo hi : Int) : Bool := match d with
  | .int i => decide (lo ≤ i) && decide (i ≤ hi)
  | _ => false
/-- a meeting's pair, beyond a thing: its thing -/
def stepB (lv : List Nat) (last : Int) (d : D) : Option Int := match d with
  | .tuple ps => (match ps with
    | [a, y] => (match a with
      | .int i => if ((decide (last + 1 ≤ i) && decide (i ≤ (lv.length : Int) - 1)) && withinB y 0 (((lv.getD i.toNat 0 : Nat) : Int) - 1)) = true then some i else none
      | _ => none)
    | _ => none)
  | _ => none
def pairsB (lv : List Nat) : Int → List D → Bool
  | _, [] => true
  | last, d :: r => match stepB lv last d with
    | some i => pairsB lv i r
    | none => false
def meetingB (lv : List Nat) (d : D) (least most : Int) : Bool := match d with
  | .tuple xs => (decide (least ≤ (xs.length : Int)) && decide ((xs.length : Int) ≤ most)) && pairsB lv (-1) xs
  | _ => false
theorem isi_tuple {d : D} (h : nd d = true) : isiD "tuple" d = some (match d with | .tuple _ => true | _ => false) := by
  cases d <;> first | rfl | cases h
theorem isi_int {d : D} (h : nd d = true) : isiD "int" d = some (match d with | .int _ => true | .bool _ => true | _ => false) := by
  cases d <;> first | rfl | cases h
theorem isi_bool {d : D} (h : nd d = true) : isiD "bool" d = some (match d with | .bool _ => true | _ => false) := by
  cases d <;> first | rfl | cases h
theorem isi_list {d : D} (h : nd d = true) : isiD "list" d = some (match d with | .list _ => true | _ => false) := by
  cases d <;> first | rfl | cases h
theorem nd_of {d : D} (h : noDct d = true) : nd d = true := by cases d <;> first | rfl | (simp [noDct] at h)
theorem noDctA_mem {ds : List D} (h : noDctA ds = true) : ∀ d ∈ ds, noDct d = true := by
  induction ds with
  | nil => intro d hd; cases hd
  | cons x xs ih =>
    simp only [noDctA, Bool.and_eq_true] at h
    intro d hd
    rcases List.mem_cons.mp hd with rfl | hd
    · exact h.1
    · exact ih h.2 d hd
theorem len2 (xs : List D) : (!decide ((xs.length : Int) = 2)) = true ∨ ∃ a b, xs = [a, b] := by
  match xs with
  | [] => exact .inl rfl
  | [_] => exact .inl rfl
  | [a, b] => exact .inr ⟨a, b, rfl⟩
  | _ :: _ :: _ :: r => exact .inl (by simp; omega)
section
open DM
theorem m_within {d : D} (h : nd d = true) (lo hi : Int) : f_is_within [d, .int lo, .int hi] = .rt (.bool (withinB d lo hi)) := by
  unfold f_is_within
  rw [runD_eq]
  show ofS (g_is_within [some (.d d), some (.d (.int lo)), some (.d (.int hi))]) = _
  unfold g_is_within withinB
  cases d with
  | int x => by_cases h1 : lo ≤ x <;> by_cases h2 : x ≤ hi <;> simp [h1, h2]
  | bool b => simp [isiD, tyN]
  | none => simp [isiD, tyN]
  | str x => simp [isiD, tyN]
  | list x => simp [isiD, tyN]
  | tuple x => simp [isiD, tyN]
  | dict x => cases h
theorem loop_pairs {lv : List Nat} {T L M : Option B} : ∀ (xs : List D) (last : Int) (y : Option B), -1 ≤ last → noDctA xs = true →
    (pairsB lv last xs = true ∧ ∃ l' y', forL (tgName 5) g_is_meeting_b1 xs [some (.d (eR lv)), T, L, M, some (.d (.int last)), y] = .nx [some (.d (eR lv)), T, L, M, some (.d (.int l')), y']) ∨
    (pairsB lv last xs = false ∧ forL (tgName 5) g_is_meeting_b1 xs [some (.d (eR lv)), T, L, M, some (.d (.int last)), y] = .rt (.bool false))
  | [], last, y, _, _ => .inl ⟨rfl, last, y, rfl⟩
  | d :: xs, last, y, hl, hn => by
    simp only [noDctA, Bool.and_eq_true] at hn
    have hnd := nd_of hn.1
    have h22 : decide (((2 : Nat) : Int) = 2) = true := rfl
    have hlen : lenD [eR lv] = some (.int (lv.length : Int)) := by simp [eR]
    unfold forL
    simp only [tgName_run, List.set_cons_succ, List.set_cons_zero]
    have bad : (stepB lv last d = none ∧ g_is_meeting_b1 [some (.d (eR lv)), T, L, M, some (.d (.int last)), some (.d d)] = .rt (.bool false)) ∨ ∃ (i : Int) (z : D), d = .tuple [.int i, z] ∧ stepB lv last d = some i ∧ -1 ≤ i ∧
        g_is_meeting_b1 [some (.d (eR lv)), T, L, M, some (.d (.int last)), some (.d d)] = .nx [some (.d (eR lv)), T, L, M, some (.d (.int i)), some (.d d)] := by
      unfold g_is_meeting_b1
      have ht := isi_tuple hnd
      cases d with
      | tuple ps =>
        rcases len2 ps with h2 | ⟨a, b, rfl⟩
        · refine .inl ⟨?_, ?_⟩
          · match ps, h2 with
            | [], _ => rfl
            | [_], _ => rfl
            | [_, _], h2 => simp at h2
            | _ :: _ :: _ :: _, _ => rfl
          · simp only [seqS_ap, ifS_ap, thenS_ap, orT_ap, notT_ap, toTru_ap, toB_ap, isiR_ap, cb_ap, op2_ap, asCons_ap, asNil_ap, rdB_ap, kst_ap, retS_ap, List.getElem?_cons_succ, List.getElem?_cons_zero, Res.bind_ok, Res.map_ok, ht, Option.map_some, Res.of_some, truD_bool, Bool.not_true, Bool.false_eq_true, if_false, lenD_tup, neD_int, boolD_bool, h2, if_true]
        · have hab : noDct a = true ∧ noDct b = true := by
            have := hn.1
            simp only [noDct, noDctA, Bool.and_eq_true] at this
            exact ⟨this.1, this.2.1⟩
          have w1 := m_within (nd_of hab.1) (last + 1) ((lv.length : Int) - 1)
          have hneg : ∀ (r : D) (hw : withinB r (last + 1) ((lv.length : Int) - 1) = false), a = r → stepB lv last (.tuple [a, b]) = none := by
            intro r hw e
            subst e
            cases a with
            | int i =>
              have hw : (decide (last + 1 ≤ i) && decide (i ≤ (lv.length : Int) - 1)) = false := hw
              show (if ((decide (last + 1 ≤ i) && decide (i ≤ (lv.length : Int) - 1)) && withinB b 0 (((lv.getD i.toNat 0 : Nat) : Int) - 1)) = true then some i else none) = none
              rw [hw, Bool.false_and, if_neg (by decide)]
            | _ => rfl
          by_cases hw : withinB a (last + 1) ((lv.length : Int) - 1) = true
          · obtain ⟨i, rfl⟩ : ∃ i, a = .int i := by cases a <;> first | exact ⟨_, rfl⟩ | (simp [withinB] at hw)
            have hi : last + 1 ≤ i ∧ i ≤ (lv.length : Int) - 1 := by
              unfold withinB at hw
              rw [Bool.and_eq_true] at hw
              exact ⟨of_decide_eq_true hw.1, of_decide_eq_true hw.2⟩
            obtain ⟨n, rfl⟩ : ∃ n : Nat, i = (n : Int) := ⟨i.toNat, by omega⟩
            have hlt : n < lv.length := by omega
            have hat : ixD (eR lv) (.int (n : Int)) = some (.int (((lv.getD n 0 : Nat) : Int))) := by
              show atI (lv.map eN) (n : Int) = _
              rw [atR hlt]
              simp [eN, List.getD, hlt]
            have w2 := m_within (nd_of hab.2) 0 (((lv.getD n 0 : Nat) : Int) - 1)
            have hp : stepB lv last (.tuple [.int (n : Int), b]) = if withinB b 0 (((lv.getD n 0 : Nat) : Int) - 1) = true then some (n : Int) else none := by
              have h0 : (decide (last + 1 ≤ (n : Int)) && decide ((n : Int) ≤ (lv.length : Int) - 1)) = true := by
                rw [decide_eq_true hi.1, decide_eq_true hi.2]; rfl
              show (if ((decide (last + 1 ≤ (n : Int)) && decide ((n : Int) ≤ (lv.length : Int) - 1)) && withinB b 0 (((lv.getD (n : Int).toNat 0 : Nat) : Int) - 1)) = true then some (n : Int) else none) = _
              rw [h0, Bool.true_and, Int.toNat_natCast]
            rw [hw] at w1
            by_cases hb : withinB b 0 (((lv.getD n 0 : Nat) : Int) - 1) = true
            · refine .inr ⟨n, b, rfl, by rw [hp, if_pos hb], by omega, ?_⟩
              rw [hb] at w2
              simp only [seqS_ap, ifS_ap, thenS_ap, orT_ap, notT_ap, toTru_ap, toB_ap, isiR_ap, cb_ap, op2_ap, callR_ap, asCons_ap, asNil_ap, rdB_ap, kst_ap, setS_ap, List.getElem?_cons_succ, List.getElem?_cons_zero, Res.bind_ok, Res.map_ok, ht, Option.map_some, Res.of_some, truD_bool, Bool.not_true, Bool.false_eq_true, if_false, lenD_tup, neD_int, boolD_bool, List.length_cons, List.length_nil, Nat.zero_add, Nat.reduceAdd, h22, ixD_tup, atI_zero, atI_one, addD_int, intD_int, hlen, if_true, w1, res_rt, hat, w2, List.set_cons_succ, List.set_cons_zero]
            · have hb' : withinB b 0 (((lv.getD n 0 : Nat) : Int) - 1) = false := by simpa using hb
              refine .inl ⟨by rw [hp, if_neg hb], ?_⟩
              rw [hb'] at w2
              simp only [seqS_ap, ifS_ap, thenS_ap, orT_ap, notT_ap, toTru_ap, toB_ap, isiR_ap, cb_ap, op2_ap, callR_ap, asCons_ap, asNil_ap, rdB_ap, kst_ap, retS_ap, List.getElem?_cons_succ, List.getElem?_cons_zero, Res.bind_ok, Res.map_ok, ht, Option.map_some, Res.of_some, truD_bool, Bool.not_true, Bool.not_false, Bool.false_eq_true, if_false, lenD_tup, neD_int, boolD_bool, List.length_cons, List.length_nil, Nat.zero_add, Nat.reduceAdd, h22, ixD_tup, atI_zero, atI_one, addD_int, intD_int, hlen, if_true, w1, res_rt, hat, w2]
          · have hw' : withinB a (last + 1) ((lv.length : Int) - 1) = false := by simpa using hw
            refine .inl ⟨hneg a hw' rfl, ?_⟩
            rw [hw'] at w1
            simp only [seqS_ap, ifS_ap, thenS_ap, orT_ap, notT_ap, toTru_ap, toB_ap, isiR_ap, cb_ap, op2_ap, callR_ap, asCons_ap, asNil_ap, rdB_ap, kst_ap, retS_ap, List.getElem?_cons_succ, List.getElem?_cons_zero, Res.bind_ok, Res.map_ok, ht, Option.map_some, Res.of_some, truD_bool, Bool.not_true, Bool.not_false, Bool.false_eq_true, if_false, lenD_tup, neD_int, boolD_bool, List.length_cons, List.length_nil, Nat.zero_add, Nat.reduceAdd, h22, ixD_tup, atI_zero, addD_int, intD_int, hlen, if_true, w1, res_rt]
      | _ =>
        refine .inl ⟨rfl, ?_⟩
        simp only [seqS_ap, ifS_ap, thenS_ap, orT_ap, notT_ap, toTru_ap, isiR_ap, rdB_ap, retS_ap, kst_ap, List.getElem?_cons_succ, List.getElem?_cons_zero, Res.bind_ok, Res.map_ok, ht, Option.map_some, Res.of_some, truD_bool, Bool.not_false, if_true]
    rcases bad with ⟨h1, h2⟩ | ⟨i, z, rfl, h1, h2, h3⟩
    · exact .inr ⟨by unfold pairsB; rw [h1], by rw [h2]⟩
    · have e : pairsB lv last (PyData.tuple [.int i, z] :: xs) = pairsB lv i xs := by
        conv => lhs; unfold pairsB
        rw [h1]
      rw [h3, e]
      exact loop_pairs xs i _ h2 hn.2
end
end DL

/-! The plain part, 35: what is a book, a strength, a row, tests, of any data. -/
namespace DL
open PySem PySem.Spec PyProof.Rows L2
theorem filter_isE {α : Type} (p : α → Bool) (xs : List α) : (xs.filter p).isEmpty = xs.all fun x => !p x := not_filter_empty p xs
/-- a comprehension that keeps some -/
theorem lc_keep {fi : Rho → Res (List D)} {t : Tg} {c : Rho → Res Bool} {e : Rho → Res D} {vs : List Nat} {ρ : Rho} {p : D → Bool} (xs : List D) (hf : fi ρ = .ok xs)
    (h : ∀ x ∈ xs, ∃ ρ1, t.run x (wipeR ρ vs) = .ok ρ1 ∧ c ρ1 = .ok (p x) ∧ (p x = true → e ρ1 = .ok x)) : lc fi t c e vs ρ = .ok (xs.filter p) := by
  have := lc_map (fi := fi) (t := t) (c := c) (e := e) (vs := vs) (ρ := ρ) (enc := fun x : D => x) (p := p) (g := fun x : D => x) xs (by rw [hf, List.map_id']) h
  rw [this, List.map_id']
def prodN (lv : List Nat) : Nat := lv.foldl (· * ·) 1
def lvB (ds : List D) : Option (List Nat) := if (ds.all fun d => withinB d 1 4) = true then some (ds.map fun d => match d with | .int i => i.toNat | _ => 0) else none
theorem lvB_ok {ds : List D} {lv : List Nat} (h : lvB ds = some lv) : ds = lv.map eN ∧ ∀ l ∈ lv, 1 ≤ l ∧ l ≤ 4 := by
  unfold lvB at h
  by_cases hc : (ds.all fun d => withinB d 1 4) = true
  · rw [if_pos hc] at h
    cases h
    induction ds with
    | nil => exact ⟨rfl, by simp⟩
    | cons d ds ih =>
      rw [List.all_cons, Bool.and_eq_true] at hc
      obtain ⟨h1, h2⟩ := ih hc.2
      cases d with
      | int i =>
        have hw := hc.1
        unfold withinB at hw
        rw [Bool.and_eq_true] at hw
        have a := of_decide_eq_true hw.1
        have b := of_decide_eq_true hw.2
        refine ⟨?_, fun l hl => ?_⟩
        · rw [List.map_cons, List.map_cons, ← h1]
          congr 1
          show PyData.int i = PyData.int _
          congr 1
          exact (Int.toNat_of_nonneg (by omega)).symm
        · rw [List.map_cons] at hl
          rcases List.mem_cons.mp hl with rfl | hl
          · show 1 ≤ i.toNat ∧ i.toNat ≤ 4
            omega
          · exact h2 l hl
      | _ => have := hc.1; cases this
  · rw [if_neg hc] at h; cases h
theorem lvB_eN {lv : List Nat} (h : ∀ l ∈ lv, 1 ≤ l ∧ l ≤ 4) : lvB (lv.map eN) = some lv := by
  unfold lvB
  rw [if_pos]
  · rw [List.map_map]
    congr 1
    conv => rhs; rw [← List.map_id lv]
    apply List.map_congr_left
    intro l _
    exact Int.toNat_natCast l
  · rw [List.all_eq_true]
    intro d hd
    obtain ⟨l, hl, rfl⟩ := List.mem_map.mp hd
    have := h l hl
    show (decide ((1 : Int) ≤ (l : Int)) && decide ((l : Int) ≤ 4)) = true
    rw [decide_eq_true (by omega), decide_eq_true (by omega)]
    rfl
def isBookB (d : D) : Bool := match d with
  | .tuple xs => (match xs with
    | [a, bs] => (match a with
      | .tuple ls => (decide ((1 : Int) ≤ (ls.length : Int)) && decide ((ls.length : Int) ≤ 6)) && (match lvB ls with
        | none => false
        | some lv => decide (prodN lv ≤ 400) && (match bs with
          | .tuple ms => decide (ms.length ≤ 12) && ms.all fun m => meetingB lv m 1 3
          | _ => false))
      | _ => false)
    | _ => false)
  | _ => false
theorem isBookB_len {xs : List D} (h : (!decide ((xs.length : Int) = 2)) = true) : isBookB (.tuple xs) = false := by
  match xs, h with
  | [], _ => rfl
  | [_], _ => rfl
  | [_, _], h2 => simp at h2
  | _ :: _ :: _ :: _, _ => rfl
theorem isBookB_tt (ls : List D) (bs : D) : isBookB (.tuple [.tuple ls, bs]) = ((decide ((1 : Int) ≤ (ls.length : Int)) && decide ((ls.length : Int) ≤ 6)) && (match lvB ls with
        | none => false
        | some lv => decide (prodN lv ≤ 400) && (match bs with
          | .tuple ms => decide (ms.length ≤ 12) && ms.all fun m => meetingB lv m 1 3
          | _ => false))) := rfl
section
open DM
theorem m_meeting_any {lv : List Nat} {d : D} (h : noDct d = true) (least most : Int) : f_is_meeting [eR lv, d, .int least, .int most] = .rt (.bool (meetingB lv d least most)) := by
  have ht := isi_tuple (nd_of h)
  unfold f_is_meeting
  rw [runD_eq]
  show ofS (g_is_meeting [some (.d (eR lv)), some (.d d), some (.d (.int least)), some (.d (.int most)), none, none]) = _
  unfold g_is_meeting meetingB
  cases d with
  | tuple xs =>
    have hx : noDctA xs = true := by simpa [noDct] using h
    rcases loop_pairs (lv := lv) (T := some (.d (.tuple xs))) (L := some (.d (.int least))) (M := some (.d (.int most))) xs (-1) none (by omega) hx with ⟨p1, l', y', p2⟩ | ⟨p1, p2⟩
    · by_cases h1 : least ≤ (xs.length : Int) <;> by_cases h2 : (xs.length : Int) ≤ most <;>
        simp [ht, h1, h2, p1, p2]
    · by_cases h1 : least ≤ (xs.length : Int) <;> by_cases h2 : (xs.length : Int) ≤ most <;>
        simp [ht, h1, h2, p1, p2]
  | _ => simp [ht]
theorem prodN_snoc (lv : List Nat) (l : Nat) : prodN (lv ++ [l]) = prodN lv * l := by simp [prodN, List.foldl_append]
theorem m_rows_in_any {lv : List Nat} (h : ∀ l ∈ lv, l ≤ 1000) : f_rows_in [eR lv] = .rt (.int ((prodN lv : Nat) : Int)) := by
  have loop : ∃ ρ', forL (tgName 2) g_rows_in_b1 (lv.map eN) [some (.d (eR lv)), some (.d (.int 1)), none] = .nx ρ' ∧ ∃ y, ρ' = [some (.d (eR lv)), some (.d (.int ((prodN lv : Nat) : Int))), y] := by
    refine forL_inv (fun d ρ => ∃ y, ρ = [some (.d (eR lv)), some (.d (.int ((prodN d : Nat) : Int))), y]) lv ?_ ⟨none, rfl⟩
    rintro d l r ρ e ⟨y, rfl⟩
    have hl : l ≤ 1000 := h l (by rw [e]; simp)
    refine ⟨[some (.d (eR lv)), some (.d (.int ((prodN d : Nat) : Int))), some (.d (eN l))], [some (.d (eR lv)), some (.d (.int ((prodN (d ++ [l]) : Nat) : Int))), some (.d (eN l))], by simp, ?_, _, rfl⟩
    have e : mulD (.int ((prodN d : Nat) : Int)) (eN l) = some (.int ((prodN (d ++ [l]) : Nat) : Int)) := (mulD_small (smallI_of (by omega) (by omega))).trans (by rw [prodN_snoc, Int.natCast_mul])
    unfold g_rows_in_b1
    rw [setS_ap, thenS_ap, op2_ap]
    simp only [rdB_ap, List.getElem?_cons_succ, List.getElem?_cons_zero, Res.bind_ok]
    rw [e]
    rfl
  obtain ⟨ρ', h1, y, rfl⟩ := loop
  unfold f_rows_in
  rw [runD_eq]
  show ofS (g_rows_in [some (.d (eR lv)), none, none]) = _
  unfold g_rows_in
  rw [show eR lv = .tuple (lv.map eN) from rfl] at h1 ⊢
  simp [h1]
theorem m_book_any {d : D} (h : noDct d = true) : f_is_book [d] = .rt (.bool (isBookB d)) := by
  have ht := isi_tuple (nd_of h)
  unfold f_is_book
  rw [runD_eq]
  show ofS (g_is_book [some (.d d), none, none, none, none]) = _
  unfold g_is_book
  cases d with
  | tuple xs =>
    rcases len2 xs with h2 | ⟨a, bs, rfl⟩
    · rw [isBookB_len h2]
      simp only [seqS_ap, ifS_ap, thenS_ap, orT_ap, notT_ap, toTru_ap, toB_ap, isiR_ap, cb_ap, op2_ap, asCons_ap, asNil_ap, rdB_ap, kst_ap, retS_ap, List.getElem?_cons_succ, List.getElem?_cons_zero, Res.bind_ok, Res.map_ok, ht, Option.map_some, Res.of_some, truD_bool, Bool.not_true, Bool.false_eq_true, if_false, lenD_tup, neD_int, boolD_bool, h2, if_true, ofS_rt]
    · have hab : noDct a = true ∧ noDct bs = true := by
        simp only [noDct, noDctA, Bool.and_eq_true] at h
        exact ⟨h.1, h.2.1⟩
      have h22 : decide (((2 : Nat) : Int) = 2) = true := rfl
      have hta := isi_tuple (nd_of hab.1)
      have htb := isi_tuple (nd_of hab.2)
      cases a with
      | tuple ls =>
        rw [isBookB_tt]
        have hls : noDctA ls = true := by simpa [noDct] using hab.1
        have e1 := lc_keep (fi := toSeq (rdB 1)) (t := tgName 3) (c := g_is_book_c1) (e := rd 3) (vs := [3]) (ρ := [some (.d (.tuple [.tuple ls, bs])), some (.d (.tuple ls)), some (.d bs), none, none]) (p := fun d => !withinB d 1 4) ls (by simp)
          fun x hx => ⟨[some (.d (.tuple [.tuple ls, bs])), some (.d (.tuple ls)), some (.d bs), some (.d x), none], rfl, by
            have w := m_within (nd_of (noDctA_mem hls x hx)) 1 4
            simp [g_is_book_c1, w], fun _ => rfl⟩
        have hall : (ls.filter fun d => !withinB d 1 4).isEmpty = ls.all fun d => withinB d 1 4 := by rw [filter_isE]; simp
        by_cases h1 : (1 : Int) ≤ (ls.length : Int)
        · by_cases h6 : (ls.length : Int) ≤ 6
          · cases hlv : lvB ls with
            | none =>
              have : (ls.all fun d => withinB d 1 4) = false := by
                unfold lvB at hlv
                cases hc : ls.all fun d => withinB d 1 4 with
                | false => rfl
                | true => rw [if_pos hc] at hlv; cases hlv
              rw [this] at hall
              simp [ht, hta, h1, h6, e1, hall, hlv]
            | some lv =>
              obtain ⟨hlv1, hlv2⟩ := lvB_ok hlv
              have hT : (ls.all fun d => withinB d 1 4) = true := by
                unfold lvB at hlv
                cases hc : ls.all fun d => withinB d 1 4 with
                | true => rfl
                | false => rw [hc, if_neg (by decide)] at hlv; cases hlv
              rw [hT] at hall
              have e3 := m_rows_in_any (lv := lv) fun l hl => by have := (hlv2 l hl).2; omega
              have hls2 : PyData.tuple ls = eR lv := by rw [hlv1]; rfl
              have e3' : f_rows_in [.tuple ls] = .rt (.int ((prodN lv : Nat) : Int)) := by rw [hls2]; exact e3
              by_cases hp : prodN lv ≤ 400
              · have hp' : ¬ (400 < ((prodN lv : Nat) : Int)) := by omega
                cases bs with
                | tuple ms =>
                  have hms : noDctA ms = true := by simpa [noDct] using hab.2
                  have e2 := lc_keep (fi := toSeq (rdB 2)) (t := tgName 4) (c := g_is_book_c2) (e := rd 4) (vs := [4]) (ρ := [some (.d (.tuple [.tuple ls, .tuple ms])), some (.d (.tuple ls)), some (.d (.tuple ms)), none, none]) (p := fun d => !meetingB lv d 1 3) ms (by simp)
                    fun x hx => ⟨[some (.d (.tuple [.tuple ls, .tuple ms])), some (.d (.tuple ls)), some (.d (.tuple ms)), none, some (.d x)], rfl, by
                      have w := m_meeting_any (lv := lv) (noDctA_mem hms x hx) 1 3
                      rw [← hls2] at w
                      simp [g_is_book_c2, w], fun _ => rfl⟩
                  have hall2 : (ms.filter fun d => !meetingB lv d 1 3).isEmpty = ms.all fun d => meetingB lv d 1 3 := by rw [filter_isE]; simp
                  by_cases h12 : ms.length ≤ 12
                  · have h12' : ¬ (12 < (ms.length : Int)) := by omega
                    simp [ht, hta, htb, h1, h6, e1, hall, e3', hp, hp', h12, h12', e2, hall2, hlv]
                  · have h12' : 12 < (ms.length : Int) := by omega
                    simp [ht, hta, htb, h1, h6, e1, hall, e3', hp, hp', h12, h12', hlv]
                | _ => simp [ht, hta, htb, h1, h6, e1, hall, e3', hp, hp', hlv]
              · have hp' : 400 < ((prodN lv : Nat) : Int) := by omega
                simp [ht, hta, h1, h6, e1, hall, e3', hp, hp', hlv]
          · simp [ht, hta, h1, h6]
        · simp [ht, hta, h1]
      | _ =>
        rw [show isBookB (.tuple [_, bs]) = false from rfl]
        simp [ht, hta]
  | _ =>
    rw [show isBookB _ = false from rfl]
    simp [ht]
theorem m_checked_any {d : D} (h : noDct d = true) : f_checked [d] = if isBookB d = true then .rt d else .ex ⟨"BadBook", none⟩ := by
  unfold f_checked
  rw [runD_eq]
  show ofS (g_checked [some (.d d)]) = _
  unfold g_checked raiseS
  cases hb : isBookB d <;> simp [m_book_any h, hb]
end
end DL

/-! The plain part, 36: books that are books. -/
namespace DL
open PySem PySem.Spec PyProof.Rows L2
theorem noDctA_map {α : Type} {f : α → D} (h : ∀ x, noDct (f x) = true) (xs : List α) : noDctA (xs.map f) = true := noDctA_of fun d hd => by
  obtain ⟨x, _, rfl⟩ := List.mem_map.mp hd
  exact h x
theorem noDct_N (n : Nat) : noDct (eN n) = true := rfl
theorem noDct_R (r : List Nat) : noDct (eR r) = true := by show noDctA (r.map eN) = true; exact noDctA_map noDct_N r
theorem noDct_P (p : Nat × Nat) : noDct (eP p) = true := rfl
theorem noDct_M (m : Meet) : noDct (eM m) = true := by show noDctA (m.map eP) = true; exact noDctA_map noDct_P m
theorem noDct_Ms (ms : List Meet) : noDctA (ms.map eM) = true := noDctA_map noDct_M ms
theorem noDct_Rs (ms : List (List Nat)) : noDctA (ms.map eR) = true := noDctA_map noDct_R ms
theorem noDct_B (b : Book) : noDct (eB b) = true := by
  show noDctA [eR b.1, .tuple (b.2.map eM)] = true
  simp [noDctA, noDct_R, noDct, noDct_Ms]
theorem meeting_ok {lv : List Nat} {m : Meet} (h : IsMeet lv m) : meetingB lv (eM m) 1 3 = true := by
  have h1 := m_is_meeting h
  have h2 := m_meeting_any (lv := lv) (noDct_M m) 1 3
  rw [h1] at h2
  injection h2 with h3
  injection h3 with h4
  exact h4.symm
theorem isBook_parts {lv : List Nat} {ms : List D} (l1 : 1 ≤ lv.length) (l6 : lv.length ≤ 6) (hl : ∀ l ∈ lv, 1 ≤ l ∧ l ≤ 4) (hp : prodN lv ≤ 400) : isBookB (.tuple [eR lv, .tuple ms]) = (decide (ms.length ≤ 12) && ms.all fun m => meetingB lv m 1 3) := by
  show isBookB (.tuple [.tuple (lv.map eN), .tuple ms]) = _
  rw [isBookB_tt, lvB_eN hl, List.length_map]
  have a : (1 : Int) ≤ (lv.length : Int) := by omega
  have b : (lv.length : Int) ≤ 6 := by omega
  simp [a, b, hp]
theorem isBook_big {lv : List Nat} {bs : D} (h : prodN lv > 400 ∨ (∃ l ∈ lv, 4 < l) ∨ 6 < lv.length) : isBookB (.tuple [eR lv, bs]) = false := by
  show isBookB (.tuple [.tuple (lv.map eN), bs]) = _
  rw [isBookB_tt, List.length_map]
  by_cases hl : (((lv.map eN).all fun d => withinB d 1 4) = true)
  · have hb : ∀ l ∈ lv, 1 ≤ l ∧ l ≤ 4 := fun l hl' => by
      have := List.all_eq_true.mp hl (eN l) (List.mem_map.mpr ⟨l, hl', rfl⟩)
      have w : (decide ((1 : Int) ≤ (l : Int)) && decide ((l : Int) ≤ 4)) = true := this
      rw [Bool.and_eq_true] at w
      have w1 := of_decide_eq_true w.1
      have w2 := of_decide_eq_true w.2
      omega
    rw [lvB_eN hb]
    rcases h with h | ⟨l, hm, h⟩ | h
    · have : decide (prodN lv ≤ 400) = false := decide_eq_false (by omega)
      simp [this]
    · have := (hb l hm).2; omega
    · have : decide ((lv.length : Int) ≤ 6) = false := decide_eq_false (by omega)
      simp [this]
  · have : lvB (lv.map eN) = none := by unfold lvB; rw [if_neg hl]
    rw [this]
    simp
theorem prodN_cons (l : Nat) (lv : List Nat) : prodN (l :: lv) = l * prodN lv := by
  have : ∀ (xs : List Nat) (a : Nat), xs.foldl (· * ·) a = a * xs.foldl (· * ·) 1 := by
    intro xs
    induction xs with
    | nil => simp
    | cons x xs ih => intro a; rw [List.foldl_cons, List.foldl_cons, ih (a * x), ih (1 * x)]; simp [Nat.mul_assoc]
  unfold prodN
  rw [List.foldl_cons, this]
  simp
theorem prodN_le {k : Nat} : ∀ {lv : List Nat}, (∀ l ∈ lv, l ≤ k) → prodN lv ≤ k ^ lv.length
  | [], _ => by simp [prodN]
  | l :: lv, h => by
    rw [prodN_cons, List.length_cons, Nat.pow_succ, Nat.mul_comm]
    exact Nat.mul_le_mul (prodN_le fun x hx => h x (by simp [hx])) (h l (by simp))
theorem wl_prod {lv : List Nat} (h : WL lv) : prodN lv ≤ 81 := by
  have h1 := prodN_le (k := 3) (lv := lv) fun l hl => (h.lev l hl).2
  have h2 : 3 ^ lv.length ≤ 3 ^ 4 := Nat.pow_le_pow_right (by decide) h.hi
  omega
theorem wf_isBook {b : Book} (h : WF b) : isBookB (eB b) = true := by
  show isBookB (.tuple [eR b.1, .tuple (b.2.map eM)]) = true
  rw [isBook_parts h.wl.lo (by have := h.wl.hi; omega) (fun l hl => ⟨(h.wl.lev l hl).1, by have := (h.wl.lev l hl).2; omega⟩) (by have := wl_prod h.wl; omega), List.length_map, decide_eq_true (by have := h.bans; omega), Bool.true_and, List.all_eq_true]
  intro d hd
  obtain ⟨m, hm, rfl⟩ := List.mem_map.mp hd
  exact meeting_ok (h.ban m hm)
section
open DM
theorem m_look_strength_any {b : Book} (h : WF b) {d : D} (hd : noDct d = true) : f_look_strength [eB b, d] = if withinB d 1 (if (b.1.length : Int) < 3 then (b.1.length : Int) else 3) = true then .rt .none else .ex ⟨"BadStrength", none⟩ := by
  have w := m_within (nd_of hd) 1 (if (b.1.length : Int) < 3 then (b.1.length : Int) else 3)
  have hl : ixD (eB b) (.int 0) = some (eR b.1) := by simp [eB]
  have hl2 : lenD [eR b.1] = some (.int (b.1.length : Int)) := by simp [eR]
  unfold f_look_strength
  rw [runD_eq]
  show ofS (g_look_strength [some (.d (eB b)), some (.d d)]) = _
  unfold g_look_strength raiseS
  cases hb : withinB d 1 (if (b.1.length : Int) < 3 then (b.1.length : Int) else 3) with
  | true =>
    rw [hb] at w
    simp only [seqS_ap, dropS_ap, ifS_ap, thenS_ap, notT_ap, toTru_ap, callR_ap, cb_ap, op2_ap, asCons_ap, asNil_ap, rd_ap, rdB_ap, kst_ap, List.getElem?_cons_succ, List.getElem?_cons_zero, Res.bind_ok, Res.map_ok, List.length_cons, List.length_nil, Nat.zero_add, Nat.reduceAdd, if_true, m_checked h, res_rt, hl, hl2, Res.of_some, minD_int, w, truD_bool, Bool.not_true, Bool.false_eq_true, if_false, ofS_nx]
  | false =>
    rw [hb] at w
    simp only [seqS_ap, dropS_ap, ifS_ap, thenS_ap, notT_ap, toTru_ap, callR_ap, cb_ap, op2_ap, asCons_ap, asNil_ap, rd_ap, rdB_ap, kst_ap, List.getElem?_cons_succ, List.getElem?_cons_zero, Res.bind_ok, Res.map_ok, List.length_cons, List.length_nil, Nat.zero_add, Nat.reduceAdd, if_true, m_checked h, res_rt, hl, hl2, Res.of_some, minD_int, w, truD_bool, Bool.not_false, Bool.false_eq_true, if_false, ofS_ex]
end
end DL

/-! The plain part, 37: results that are none; the blurred lists. -/
namespace DL
open PySem PySem.Spec PyProof.Rows L2
theorem gtD_int (i j : Int) : gtD (.int i) (.int j) = some (.bool (decide (j < i))) := rfl
def isBoolD : D → Bool
  | .bool _ => true
  | _ => false
/-- so many results -/
def resB (n : Nat) (d : D) : Bool := match d with
  | .list xs => decide (xs.length = n) && xs.all isBoolD
  | _ => false
section
open DM
variable {b : Book} {s : Nat}
theorem m_look_results_any (h : WF b) (s1 : 1 ≤ s) (s3 : s ≤ 3) (sl : s ≤ b.1.length) {ts : List (List Nat)} (ht : ∀ t ∈ ts, t ∈ tests b) {d : D} (hd : noDct d = true) : f_look_results [eB b, .int (s : Int), .list (ts.map eR), d] = if resB ts.length d = true then .rt .none else .ex ⟨"BadResults", none⟩ := by
  unfold f_look_results
  rw [runD_eq]
  show ofS (g_look_results [some (.d (eB b)), some (.d (.int (s : Int))), some (.d (.list (ts.map eR))), some (.d d), none]) = _
  unfold g_look_results raiseS
  have i0 := isi_list (nd_of hd)
  by_cases hl : ∃ xs, d = .list xs
  · obtain ⟨xs, rfl⟩ := hl
    have hx : noDctA xs = true := hd
    have e := lc_keep (fi := toSeq (rdB 3)) (t := tgName 4) (c := g_look_results_c1) (e := rd 4) (vs := [4]) (ρ := [some (.d (eB b)), some (.d (.int (s : Int))), some (.d (.list (ts.map eR))), some (.d (.list xs)), none]) (p := fun x => !isBoolD x) xs rfl
      fun x hx' => ⟨[some (.d (eB b)), some (.d (.int (s : Int))), some (.d (.list (ts.map eR))), some (.d (.list xs)), some (.d x)], rfl, by
        have i := isi_bool (nd_of (noDctA_mem hx x hx'))
        unfold g_look_results_c1
        simp only [notT_ap, toTru_ap, isiR_ap, rdB_ap, List.getElem?_cons_succ, List.getElem?_cons_zero, Res.bind_ok, i, Option.map_some, Res.of_some, truD_bool, Res.map_ok]
        cases x <;> rfl, fun _ => rfl⟩
    have hl1 : lenD [.list (ts.map eR)] = some (.int (ts.length : Int)) := by rw [lenD_list, List.length_map]
    have hl2 : lenD [.list xs] = some (.int (xs.length : Int)) := lenD_list _
    have hn : truD (.list (xs.filter fun x => !isBoolD x)) = some (!xs.all isBoolD) := by
      rw [truD_list, filter_isE]
      simp
    have hq : decide ((xs.length : Int) = (ts.length : Int)) = decide (xs.length = ts.length) := decide_eq_decide.mpr ⟨fun z => by omega, fun z => by omega⟩
    unfold resB
    cases hc : decide (xs.length = ts.length) with
    | false =>
      simp only [seqS_ap, dropS_ap, ifS_ap, thenS_ap, orT_ap, notT_ap, toTru_ap, toB_ap, isiR_ap, cb_ap, op2_ap, frz_ap, callR_ap, asCons_ap, asNil_ap, rd_ap, rdB_ap, List.getElem?_cons_succ, List.getElem?_cons_zero, Res.bind_ok, Res.map_ok, List.length_cons, List.length_nil, Nat.zero_add, Nat.reduceAdd, if_true, m_look_strength h s1 s3 sl, m_look_tests h ht, res_rt, i0, Option.map_some, Res.of_some, truD_bool, Bool.not_true, Bool.false_eq_true, if_false, hl1, hl2, neD_int, boolD_bool, hq, hc, Bool.not_false, if_true, Bool.false_and, ofS_ex]
    | true =>
      simp only [seqS_ap, dropS_ap, ifS_ap, thenS_ap, orT_ap, notT_ap, toTru_ap, toB_ap, isiR_ap, cb_ap, op2_ap, frz_ap, callR_ap, asCons_ap, asNil_ap, rd_ap, rdB_ap, List.getElem?_cons_succ, List.getElem?_cons_zero, Res.bind_ok, Res.map_ok, List.length_cons, List.length_nil, Nat.zero_add, Nat.reduceAdd, if_true, m_look_strength h s1 s3 sl, m_look_tests h ht, res_rt, i0, Option.map_some, Res.of_some, truD_bool, Bool.not_true, Bool.false_eq_true, if_false, hl1, hl2, neD_int, boolD_bool, hq, hc, e, hn, Bool.true_and]
      cases xs.all isBoolD <;> rfl
  · have i1 : isiD "list" d = some false := by
      rw [i0]
      cases d <;> first | rfl | exact absurd ⟨_, rfl⟩ hl
    have r : resB ts.length d = false := by cases d <;> first | rfl | exact absurd ⟨_, rfl⟩ hl
    simp only [seqS_ap, dropS_ap, ifS_ap, thenS_ap, orT_ap, notT_ap, toTru_ap, isiR_ap, callR_ap, asCons_ap, asNil_ap, rd_ap, rdB_ap, List.getElem?_cons_succ, List.getElem?_cons_zero, Res.bind_ok, Res.map_ok, List.length_cons, List.length_nil, Nat.zero_add, Nat.reduceAdd, if_true, m_look_strength h s1 s3 sl, m_look_tests h ht, res_rt, i1, Option.map_some, Res.of_some, truD_bool, Bool.not_false, r, Bool.false_eq_true, if_false, ofS_ex]
theorem m_suspects_bad (h : WF b) (s1 : 1 ≤ s) (s3 : s ≤ 3) (sl : s ≤ b.1.length) {ts : List (List Nat)} (ht : ∀ t ∈ ts, t ∈ tests b) {d : D} (hd : noDct d = true) (hb : resB ts.length d = false) : f_suspects [eB b, .int (s : Int), .list (ts.map eR), d] = .ex ⟨"BadResults", none⟩ := by
  have e := m_look_results_any h s1 s3 sl ht hd
  rw [hb] at e
  unfold f_suspects
  rw [runD_eq]
  show ofS (g_suspects [some (.d (eB b)), some (.d (.int (s : Int))), some (.d (.list (ts.map eR))), some (.d d)]) = _
  unfold g_suspects
  simp only [seqS_ap, dropS_ap, thenS_ap, callR_ap, asCons_ap, asNil_ap, rd_ap, List.getElem?_cons_succ, List.getElem?_cons_zero, Res.bind_ok, Res.map_ok, List.length_cons, List.length_nil, Nat.zero_add, Nat.reduceAdd, if_true, e, Bool.false_eq_true, if_false, res_ex, ofS_ex]
theorem m_next_bad (h : WF b) (s1 : 1 ≤ s) (s3 : s ≤ 3) (sl : s ≤ b.1.length) {ts : List (List Nat)} (ht : ∀ t ∈ ts, t ∈ tests b) {d : D} (hd : noDct d = true) (hb : resB ts.length d = false) : f_next_test [eB b, .int (s : Int), .list (ts.map eR), d] = .ex ⟨"BadResults", none⟩ := by
  have e := m_suspects_bad h s1 s3 sl ht hd hb
  unfold f_next_test
  rw [runD_eq]
  show ofS (g_next_test [some (.d (eB b)), some (.d (.int (s : Int))), some (.d (.list (ts.map eR))), some (.d d), none, none, none, none, none, none]) = _
  unfold g_next_test
  simp only [seqS_ap, setS_ap, thenS_ap, callR_ap, asCons_ap, asNil_ap, rd_ap, List.getElem?_cons_succ, List.getElem?_cons_zero, Res.bind_ok, Res.map_ok, List.length_cons, List.length_nil, Nat.zero_add, Nat.reduceAdd, if_true, e, res_ex]
  rfl
end
/-! ### the blurred lists -/
def eMs (ms : List Meet) : D := .list (ms.map eM)
def grpS (ts : List (List Nat)) (cs : List (List Bool × List Meet)) (m : Meet) : List (List Bool × List Meet) := putE cs (resM ts m) ((valE cs (resM ts m)).getD [] ++ [m])
def grpM (ts : List (List Nat)) (ms : List Meet) : List (List Bool × List Meet) := ms.foldl (grpS ts) []
theorem grpM_app (ts : List (List Nat)) (ms : List Meet) (m : Meet) : grpM ts (ms ++ [m]) = grpS ts (grpM ts ms) m := by simp [grpM, List.foldl_append]
theorem grpM_len (ts : List (List Nat)) (ms : List Meet) : (grpM ts ms).length ≤ ms.length := by
  suffices h : ∀ (ms : List Meet) (cs : List (List Bool × List Meet)), (ms.foldl (grpS ts) cs).length ≤ cs.length + ms.length by have := h ms []; simpa [grpM] using this
  intro ms
  induction ms with
  | nil => intro cs; simp
  | cons m ms ih =>
    intro cs
    rw [List.foldl_cons, List.length_cons]
    have := ih (grpS ts cs m)
    have := putE_len cs (resM ts m) ((valE cs (resM ts m)).getD [] ++ [m])
    unfold grpS at *
    omega
theorem grpM_val (ts : List (List Nat)) (ms : List Meet) : ∀ c ∈ grpM ts ms, c.2.length ≤ ms.length := by
  suffices h : ∀ (ms : List Meet) (cs : List (List Bool × List Meet)) (n : Nat), (∀ c ∈ cs, c.2.length ≤ n) → ∀ c ∈ ms.foldl (grpS ts) cs, c.2.length ≤ n + ms.length by
    have := h ms [] 0 (fun c hc => by cases hc)
    simpa [grpM] using this
  intro ms
  induction ms with
  | nil => intro cs n hn c hc; exact Nat.le_trans (hn c hc) (by simp)
  | cons m ms ih =>
    intro cs n hn c hc
    rw [List.foldl_cons] at hc
    have := ih (grpS ts cs m) (n + 1) (fun c hc => by
      rcases putE_mem hc with rfl | ⟨hc, _⟩
      · show (_ ++ _ : List Meet).length ≤ _
        rw [List.length_append]
        cases hv : valE cs (resM ts m) with
        | none => simp
        | some v =>
          have := hn _ (valE_mem hv)
          simp at this ⊢
          omega
      · have := hn c hc; omega) c hc
    rw [List.length_cons]
    omega
theorem val_len (ts : List (List Nat)) (ms : List Meet) (k : List Bool) : ((valE (grpM ts ms) k).getD []).length ≤ ms.length := by
  cases hv : valE (grpM ts ms) k with
  | none => simp
  | some v => exact grpM_val ts ms _ (valE_mem hv)
/-- the lists of two and more, as data, unsorted -/
def manyL (ts : List (List Nat)) (ms : List Meet) : List (List Meet) := ((grpM ts ms).filter fun c => decide (1 < ((valE (grpM ts ms) c.1).getD []).length)).map fun c => (valE (grpM ts ms) c.1).getD []
def blurD (ts : List (List Nat)) (ms : List Meet) : List D := ((manyL ts ms).map eMs).mergeSort dle
theorem nmMs' (ms : List Meet) : Nm 3 (eMs ms) := nmMs ms
theorem alike_MM : ∀ a b : List Meet, PySem.W.alikeAll (a.map eM) (b.map eM) = true
  | [], _ => by simp [PySem.W.alikeAll]
  | _ :: _, [] => by simp [PySem.W.alikeAll]
  | p :: a, q :: b => by
    have := alike_Ms p q
    simp only [List.map_cons, PySem.W.alikeAll, alike_MM a b, Bool.and_true]
    simpa [eM, PySem.W.alike] using this
theorem sorted_MMs (xs : List (List Meet)) : sortedD [.list (xs.map eMs)] = some ((xs.map eMs).mergeSort dle) := by
  have e : sortedD [.list (xs.map eMs)] = if (allLike (xs.map eMs) && sortsD (xs.map eMs) && (xs.map eMs).all fun d => decide (d.depth ≤ 60)) = true then some ((xs.map eMs).mergeSort dle) else none := rfl
  have h1 : allLike (xs.map eMs) = true := by
    unfold allLike
    simp only [List.all_eq_true, List.mem_map, forall_exists_index, and_imp, forall_apply_eq_imp_iff₂]
    intro a _ b _
    simpa [eMs, PySem.W.alike] using alike_MM a b
  have h2 : sortsD (xs.map eMs) = true := by
    unfold sortsD
    rw [Bool.or_eq_true]
    right
    simp only [List.all_eq_true, List.mem_map, forall_exists_index, and_imp, forall_apply_eq_imp_iff₂]
    intro a _
    rfl
  have h3 : ((xs.map eMs).all fun d => decide (d.depth ≤ 60)) = true := by
    simp only [List.all_eq_true, List.mem_map, forall_exists_index, and_imp, forall_apply_eq_imp_iff₂]
    intro a _
    exact decide_eq_true (Nat.le_trans (nmMs' a).2 (by decide))
  rw [e, h1, h2, h3]
  simp only [Bool.and_self, if_true]
theorem nm_blur (ts : List (List Nat)) (ms : List Meet) : Nm 4 (.list (blurD ts ms)) := .list fun x hx => by
  have hx := List.mem_mergeSort.mp hx
  obtain ⟨m, _, rfl⟩ := List.mem_map.mp hx
  exact nmMs' m
theorem eqBlur (ts : List (List Nat)) (ms : List Meet) : eqD (.list (blurD ts ms)) (.list (blurD ts ms)) = some (.bool true) := eq_same (nm_blur ts ms) (by decide)
section
open DM
theorem dput_grp {i : Nat} {ρ : Rho} {ts : List (List Nat)} {ms : List Meet} {m : Meet} {fk fv : Rho → Res D} (h : ρ[i]? = some (some (.dct ((grpM ts ms).map (encE eBk eMs))))) (hk : fk ρ = .ok (eBk (resM ts m))) (hm : fv ρ = .ok (.list [eM m])) (hz : ms.length ≤ 1000) :
    dputS i fk (op2 addD (dgetR i fk (frz (disp asNil))) fv) ρ = .nx (ρ.set i (some (.dct ((grpM ts (ms ++ [m])).map (encE eBk eMs))))) := by
  have hg := get_enc (ev := eMs) keyB (grpM ts ms) (resM ts m)
  have hp := put_enc (ev := eMs) keyB (grpM ts ms) (resM ts m) ((valE (grpM ts ms) (resM ts m)).getD [] ++ [m])
  have sz := sizeLine_big
  have hgd : (getK ((grpM ts ms).map (encE eBk eMs)) (eBk (resM ts m))).getD (.list []) = eMs ((valE (grpM ts ms) (resM ts m)).getD []) := by
    rw [hg]
    cases valE (grpM ts ms) (resM ts m) <;> rfl
  have hln : ((grpM ts ms).map (encE eBk eMs)).length < sizeLine := by rw [List.length_map]; have := grpM_len ts ms; omega
  have hla := val_len ts ms (resM ts m)
  have had : addD (eMs ((valE (grpM ts ms) (resM ts m)).getD [])) (.list [eM m]) = some (eMs ((valE (grpM ts ms) (resM ts m)).getD [] ++ [m])) := by
    show (if _ then some (PyData.list (((valE (grpM ts ms) (resM ts m)).getD []).map eM ++ [eM m])) else none) = _
    rw [if_pos (by rw [List.length_map]; show _ + 1 ≤ _; omega)]
    simp [eMs]
  rw [dputS_at (kvs := (grpM ts ms).map (encE eBk eMs)) (k := eBk (resM ts m)) (v := eMs ((valE (grpM ts ms) (resM ts m)).getD [] ++ [m])) h ?_ hk (keyB.ok _) hln, hp, grpM_app]
  · rfl
  · unfold dgetR
    rw [op2_ap, dctR_dct (kvs := (grpM ts ms).map (encE eBk eMs)) _ h]
    simp only [hk, hm, frz_ap, disp_ap, asNil_ap, Res.bind_ok, Res.map_ok, List.length_nil, Nat.zero_le, keyB.ok, if_true, hgd, had, Res.of_some]
theorem dget_grp {i : Nat} {ρ : Rho} {ts : List (List Nat)} {ms : List Meet} {c : List Bool × List Meet} (hc : c ∈ grpM ts ms) {fk : Rho → Res D} (h : ρ[i]? = some (some (.dct ((grpM ts ms).map (encE eBk eMs))))) (hk : fk ρ = .ok (eBk c.1)) :
    dgetIR i fk ρ = .ok (eMs ((valE (grpM ts ms) c.1).getD [])) := by
  obtain ⟨v, hv⟩ := valE_has hc
  have hg := get_enc (ev := eMs) keyB (grpM ts ms) c.1
  rw [hv] at hg
  unfold dgetIR
  rw [dctR_dct (kvs := (grpM ts ms).map (encE eBk eMs)) _ h]
  simp only [hk, Res.bind_ok, keyB.ok, if_true, hg, hv, Option.map_some, Option.getD_some, Res.of_some]
variable {b : Book} {s : Nat}
theorem blur_b1 {z0 z1 z4 z5 : Option B} {ts : List (List Nat)} {ms : List Meet} {m : Meet} (q : f_results_by [eM m, .list (ts.map eR)] = .ro ((resM ts m).map PyData.bool)) (hz : ms.length ≤ 1000) :
    g_blurred_b1 [z0, z1, some (.d (.list (ts.map eR))), some (.dct ((grpM ts ms).map (encE eBk eMs))), some (.d (eM m)), z5] = .nx [z0, z1, some (.d (.list (ts.map eR))), some (.dct ((grpM ts (ms ++ [m])).map (encE eBk eMs))), some (.d (eM m)), some (.d (eBk (resM ts m)))] := by
  unfold g_blurred_b1
  simp only [seqS_ap, setS_ap, thenS_ap, cb_ap, callR_ap, asCons_ap, asNil_ap, rd_ap, List.getElem?_cons_succ, List.getElem?_cons_zero, Res.bind_ok, Res.map_ok, List.length_cons, List.length_nil, Nat.zero_add, Nat.reduceAdd, if_true, q, res_ro, toTupD_list, Res.of_some, List.set_cons_succ, List.set_cons_zero]
  rw [show PyData.tuple ((resM ts m).map PyData.bool) = eBk (resM ts m) from rfl]
  rw [dput_grp (m := m) rfl rfl rfl hz]
  rfl
theorem m_blurred (h : WF b) (s1 : 1 ≤ s) (s3 : s ≤ 3) (sl : s ≤ b.1.length) {ts : List (List Nat)} (ht : ∀ t ∈ ts, t ∈ tests b) (hl : ts.length ≤ 10000) : f_blurred [eB b, .int (s : Int), .list (ts.map eR)] = .ro (blurD ts (poss b s)) := by
  have hf := fit_of h s1 s3 ht hl
  obtain ⟨ρ', w1, y4, y5, rfl⟩ : ∃ ρ', forL (tgName 4) g_blurred_b1 ((poss b s).map eM) [some (.d (eB b)), some (.d (.int (s : Int))), some (.d (.list (ts.map eR))), some (.dct []), none, none] = .nx ρ' ∧
      ∃ y4 y5, ρ' = [some (.d (eB b)), some (.d (.int (s : Int))), some (.d (.list (ts.map eR))), some (.dct ((grpM ts (poss b s)).map (encE eBk eMs))), y4, y5] := by
    refine forL_inv (fun d ρ => ∃ y4 y5, ρ = [some (.d (eB b)), some (.d (.int (s : Int))), some (.d (.list (ts.map eR))), some (.dct ((grpM ts d).map (encE eBk eMs))), y4, y5]) (poss b s) ?_ ⟨none, none, rfl⟩
    rintro d m r ρ e ⟨y4, y5, rfl⟩
    have hm : m ∈ poss b s := by rw [e]; simp
    have hd : d.length ≤ 200 := by have := hf.few; rw [e, List.length_append] at this; omega
    have q := m_results_by (m := m) (ts := ts) ⟨hf.len, fun x hx => by rw [List.mem_singleton.mp hx]; exact hf.lt m hm, by simp, hl⟩
    exact ⟨_, _, rfl, blur_b1 (z0 := some (.d (eB b))) (z1 := some (.d (.int (s : Int)))) (z4 := none) (z5 := y5) q (by omega), _, _, rfl⟩
  have hkeys := lc_map (fi := keysR 3) (t := tgName 5) (c := g_blurred_c1) (e := g_blurred_e1) (vs := [5]) (ρ := [some (.d (eB b)), some (.d (.int (s : Int))), some (.d (.list (ts.map eR))), some (.dct ((grpM ts (poss b s)).map (encE eBk eMs))), y4, y5]) (enc := fun c : List Bool × List Meet => eBk c.1) (p := fun c => decide (1 < ((valE (grpM ts (poss b s)) c.1).getD []).length)) (g := fun c => eMs ((valE (grpM ts (poss b s)) c.1).getD [])) (grpM ts (poss b s))
    (by unfold keysR; rw [dctR_dct (kvs := (grpM ts (poss b s)).map (encE eBk eMs)) _ rfl, List.map_map]; rfl) fun c hc => by
      have q := dget_grp (i := 3) (ρ := [some (.d (eB b)), some (.d (.int (s : Int))), some (.d (.list (ts.map eR))), some (.dct ((grpM ts (poss b s)).map (encE eBk eMs))), y4, some (.d (eBk c.1))]) (fk := rd 5) hc rfl rfl
      refine ⟨[some (.d (eB b)), some (.d (.int (s : Int))), some (.d (.list (ts.map eR))), some (.dct ((grpM ts (poss b s)).map (encE eBk eMs))), y4, some (.d (eBk c.1))], rfl, ?_, fun _ => q⟩
      unfold g_blurred_c1
      have hn : lenD [eMs ((valE (grpM ts (poss b s)) c.1).getD [])] = some (.int (((valE (grpM ts (poss b s)) c.1).getD []).length : Int)) := by unfold eMs; rw [lenD_list, List.length_map]
      simp only [toB_ap, op2_ap, cb_ap, asCons_ap, asNil_ap, kst_ap, q, Res.bind_ok, Res.map_ok, hn, Res.of_some, gtD_int, boolD_bool]
      congr 1
      exact decide_eq_decide.mpr ⟨fun z => by omega, fun z => by omega⟩
  have hp : f_possible_of [eB b, .int (s : Int)] = .ro ((poss b s).map eM) := m_possible_of h s1 s3
  have hs := sorted_MMs (manyL ts (poss b s))
  have hk2 : ((grpM ts (poss b s)).filter fun c => decide (1 < ((valE (grpM ts (poss b s)) c.1).getD []).length)).map (fun c => eMs ((valE (grpM ts (poss b s)) c.1).getD [])) = (manyL ts (poss b s)).map eMs := by
    unfold manyL
    rw [List.map_map]
    rfl
  rw [hk2] at hkeys
  unfold f_blurred
  rw [runD_eq]
  show ofS (g_blurred [some (.d (eB b)), some (.d (.int (s : Int))), some (.d (.list (ts.map eR))), none, none, none]) = _
  unfold g_blurred
  simp only [seqS_ap, dropS_ap, dnewS_ap, forS_ap, retO_ap, thenS_ap, toSeq_ap, cb_ap, frz_ap, callR_ap, asCons_ap, asNil_ap, rd_ap, List.getElem?_cons_succ, List.getElem?_cons_zero, Res.bind_ok, Res.map_ok, List.length_cons, List.length_nil, Nat.zero_add, Nat.reduceAdd, if_true, m_look_strength h s1 s3 sl, m_look_tests h ht, res_rt, res_ro, List.set_cons_succ, List.set_cons_zero, hp, seqOf_list, Res.of_some, w1, hkeys, hs, ofS_ro]
  rfl
end
end DL

/-! The plain part, 38: what no test parts; the blurred list of a meeting. -/
namespace DL
open PySem PySem.Spec PyProof.Rows L2
theorem step_some {ms : List Meet} {ev : List (List Nat)} {q : Nat × List Nat} : (ev.foldl (nextStep ms) (some q)) ≠ none := by
  induction ev generalizing q with
  | nil => simp
  | cons t ev ih =>
    rw [List.foldl_cons]
    unfold nextStep
    split
    · exact ih
    · exact ih
theorem next_none {ms : List Meet} {ev : List (List Nat)} (h : nextM ev ms = none) : ∀ t ∈ ev, ¬ (max (newsM ms t) (ms.length - newsM ms t) < ms.length) := by
  unfold nextM at h
  induction ev with
  | nil => intro t ht; cases ht
  | cons t ev ih =>
    rw [List.foldl_cons] at h
    have hs : nextStep ms none t = none := by
      cases hq : nextStep ms none t with
      | none => rfl
      | some q => rw [hq] at h; exact absurd h step_some
    intro t' ht'
    rcases List.mem_cons.mp ht' with rfl | ht'
    · intro hlt
      unfold nextStep at hs
      rw [if_pos ⟨hlt, fun q z => by cases z⟩] at hs
      cases hs
    · rw [hs] at h
      exact ih h t' ht'
theorem news_alike {ms : List Meet} {t : List Nat} (h : ¬ (max (newsM ms t) (ms.length - newsM ms t) < ms.length)) {m m' : Meet} (hm : m ∈ ms) (hm' : m' ∈ ms) : meets t m = meets t m' := by
  have hle : newsM ms t ≤ ms.length := List.length_filter_le _ _
  have : newsM ms t = ms.length ∨ newsM ms t = 0 := by omega
  rcases this with e | e
  · have := List.length_filter_eq_length_iff.mp e
    rw [this m hm, this m' hm']
  · have e : (ms.filter fun m => meets t m) = [] := List.length_eq_zero_iff.mp e
    have := List.filter_eq_nil_iff.mp e
    have h1 := this m hm
    have h2 := this m' hm'
    rw [Bool.not_eq_true] at h1 h2
    rw [h1, h2]
theorem resM_eq {ts : List (List Nat)} {m m' : Meet} : resM ts m = resM ts m' ↔ ∀ t ∈ ts, meets t m = meets t m' := by
  unfold resM
  constructor
  · intro h t ht
    have := List.map_inj_left.mp h t ht
    simpa using this
  · intro h
    exact List.map_congr_left fun t ht => by rw [h t ht]
/-- suspects that no test parts are a class of all tests -/
theorem susp_class {b : Book} {s : Nat} {ts : List (List Nat)} {one : Meet} (ht : ∀ t ∈ ts, t ∈ tests b) (ho : one ∈ poss b s) (hn : nextM (tests b) (suspM b s ts (resM ts one)) = none) : suspM b s ts (resM ts one) = (poss b s).filter fun m => decide (resM (tests b) m = resM (tests b) one) := by
  have hin : one ∈ suspM b s ts (resM ts one) := List.mem_filter.mpr ⟨ho, by simp⟩
  have hp := next_none hn
  refine List.filter_congr fun m hm => ?_
  rw [decide_eq_decide]
  constructor
  · intro h
    exact resM_eq.mpr fun t htt => news_alike (hp t htt) (List.mem_filter.mpr ⟨hm, by simpa using h⟩) hin
  · intro h
    exact resM_eq.mpr fun t htt => resM_eq.mp h t (ht t htt)
section
variable {κ α : Type} [DecidableEq κ]
theorem valE_put (cs : List (κ × α)) (k k' : κ) (v : α) : valE (putE cs k v) k' = if k = k' then some v else valE cs k' := by
  unfold putE
  by_cases hh : (cs.any fun c => decide (c.1 = k)) = true
  · rw [if_pos hh]
    unfold valE
    induction cs with
    | nil => simp at hh
    | cons c cs ih =>
      rw [List.map_cons, List.find?_cons, List.find?_cons]
      by_cases hc : c.1 = k
      · rw [if_pos hc]
        by_cases hk : k = k'
        · rw [if_pos hk]
          have : decide ((c.1, v).1 = k') = true := decide_eq_true (by show c.1 = k'; rw [hc, hk])
          rw [this]
          rfl
        · rw [if_neg hk]
          have h1 : decide ((c.1, v).1 = k') = false := decide_eq_false (by show ¬ c.1 = k'; rw [hc]; exact hk)
          have h2 : decide (c.1 = k') = false := h1
          rw [h1]
          by_cases hh2 : (cs.any fun c => decide (c.1 = k)) = true
          · have := ih hh2
            rw [if_neg hk] at this
            exact this
          · have : cs.map (fun c => if c.1 = k then (c.1, v) else c) = cs := by
              conv => rhs; rw [← List.map_id' cs]
              refine List.map_congr_left fun x hx => ?_
              rw [if_neg fun z => hh2 (List.any_eq_true.mpr ⟨x, hx, decide_eq_true z⟩)]
            rw [this]
      · rw [if_neg hc]
        have hh2 : (cs.any fun c => decide (c.1 = k)) = true := by
          rw [List.any_cons, decide_eq_false hc, Bool.false_or] at hh
          exact hh
        have := ih hh2
        cases hd : decide (c.1 = k') with
        | true =>
          have e : c.1 = k' := of_decide_eq_true hd
          have hk : ¬ k = k' := fun z => hc (by rw [e, z])
          rw [if_neg hk]
        | false => exact this
  · rw [if_neg hh]
    unfold valE
    rw [List.find?_append]
    by_cases hk : k = k'
    · subst hk
      have : cs.find? (fun c => decide (c.1 = k)) = none := List.find?_eq_none.mpr fun x hx hd => hh (List.any_eq_true.mpr ⟨x, hx, hd⟩)
      rw [this, if_pos rfl]
      simp
    · rw [if_neg hk]
      cases cs.find? fun c => decide (c.1 = k') with
      | none => simp [hk]
      | some c => rfl
end
theorem grp_val (ts : List (List Nat)) (ms : List Meet) (k : List Bool) : (valE (grpM ts ms) k).getD [] = ms.filter fun m => decide (resM ts m = k) := by
  suffices h : ∀ n : Nat, ∀ ms : List Meet, ms.length = n → (valE (grpM ts ms) k).getD [] = ms.filter fun m => decide (resM ts m = k) from h _ ms rfl
  intro n
  induction n with
  | zero =>
    intro ms hl
    rw [List.length_eq_zero_iff.mp hl]
    rfl
  | succ n ih =>
    intro ms hl
    have hne : ms ≠ [] := fun z => by rw [z] at hl; cases hl
    obtain ⟨ms', m, rfl⟩ : ∃ ms' m, ms = ms' ++ [m] := ⟨ms.dropLast, ms.getLast hne, (List.dropLast_concat_getLast hne).symm⟩
    rw [List.length_append, List.length_singleton] at hl
    have i := ih ms' (by omega)
    rw [grpM_app]
    unfold grpS
    rw [valE_put, List.filter_append]
    by_cases hk : resM ts m = k
    · rw [if_pos hk, hk, Option.getD_some, i]
      simp [hk]
    · rw [if_neg hk, i]
      simp [hk]
/-- a class of two and more is among the blurred lists -/
theorem blur_has {ts : List (List Nat)} {ms : List Meet} {one : Meet} (h2 : 1 < (ms.filter fun m => decide (resM ts m = resM ts one)).length) : eMs (ms.filter fun m => decide (resM ts m = resM ts one)) ∈ blurD ts ms := by
  unfold blurD
  rw [List.mem_mergeSort]
  have hg := grp_val ts ms (resM ts one)
  cases hv : valE (grpM ts ms) (resM ts one) with
  | none => rw [hv] at hg; rw [← hg] at h2; simp at h2
  | some v =>
    refine List.mem_map.mpr ⟨_, ?_, rfl⟩
    unfold manyL
    refine List.mem_map.mpr ⟨(resM ts one, v), List.mem_filter.mpr ⟨valE_mem hv, ?_⟩, hg⟩
    show decide (1 < ((valE (grpM ts ms) (resM ts one)).getD []).length) = true
    rw [hg]
    exact decide_eq_true h2
theorem eMs_inj (a b : List Meet) (h : eMs a = eMs b) : a = b := map_inj (fun _ _ => eM_inj) (PyData.list.inj h)
theorem blur_enc (ts : List (List Nat)) (ms : List Meet) : ∃ zs : List (List Meet), blurD ts ms = zs.map eMs := by
  have h : ∀ ds : List D, (∀ d ∈ ds, ∃ z : List Meet, d = eMs z) → ∃ zs : List (List Meet), ds = zs.map eMs := by
    intro ds
    induction ds with
    | nil => intro _; exact ⟨[], rfl⟩
    | cons d ds ih =>
      intro h
      obtain ⟨z, rfl⟩ := h d (by simp)
      obtain ⟨zs, rfl⟩ := ih fun d hd => h d (by simp [hd])
      exact ⟨z :: zs, rfl⟩
  refine h _ fun d hd => ?_
  obtain ⟨z, _, rfl⟩ := List.mem_map.mp (List.mem_mergeSort.mp hd)
  exact ⟨z, rfl⟩
theorem in_blur (neg : Bool) (ts : List (List Nat)) (ms z : List Meet) : ∃ c : Bool, inD neg (eMs z) (.list (blurD ts ms)) = some (.bool (neg ^^ c)) ∧ (eMs z ∈ blurD ts ms → c = true) := by
  obtain ⟨zs, e⟩ := blur_enc ts ms
  refine ⟨zs.contains z, ?_, fun h => ?_⟩
  · rw [e]
    exact (in_g nmMs' (by decide) eMs_inj neg z zs).1
  · rw [e] at h
    obtain ⟨z', hz, e'⟩ := List.mem_map.mp h
    rw [← eMs_inj _ _ e']
    exact List.contains_iff_mem.mpr hz
/-! ### how far the asking goes -/
theorem asked_ge {ev : List (List Nat)} {one : Meet} (n : Nat) (a : LS) : a.asked.length ≤ (iter (lkGo ev) (lkStep ev one) n a).asked.length :=
  iter_keeps (fun x => a.asked.length ≤ x.asked.length) (fun x hx _ => by
    show a.asked.length ≤ (x.asked ++ [_]).length
    rw [List.length_append]
    omega) n a (Nat.le_refl _)
theorem most_ge {b : Book} {s : Nat} {ts : List (List Nat)} {one : Meet} {d : List Meet} (h : one ∈ d) : (looked b s ts one).asked.length - ts.length ≤ mostM b s ts d := by
  have mono : ∀ (d : List Meet) (k : Nat), k ≤ d.foldl (fun k one => max k ((looked b s ts one).asked.length - ts.length)) k := by
    intro d
    induction d with
    | nil => intro k; exact Nat.le_refl _
    | cons m d ih => intro k; rw [List.foldl_cons]; exact Nat.le_trans (Nat.le_max_left _ _) (ih _)
  have all : ∀ (d : List Meet) (k : Nat), one ∈ d → (looked b s ts one).asked.length - ts.length ≤ d.foldl (fun k one => max k ((looked b s ts one).asked.length - ts.length)) k := by
    intro d
    induction d with
    | nil => intro k h; cases h
    | cons m d ih =>
      intro k h
      rw [List.foldl_cons]
      rcases List.mem_cons.mp h with rfl | h
      · exact Nat.le_trans (Nat.le_max_right _ _) (mono _ _)
      · exact ih _ h
  exact all d 0 h
end DL

/-! The plain part, 39: rows of any kind; filling from given tests. -/
namespace DL
open PySem PySem.Spec PyProof.Rows L2
theorem rows_of {lv : List Nat} : ∀ r : List Nat, r.length = lv.length → (∀ i (h : i < r.length), ∃ l, lv[i]? = some l ∧ r[i] < l) → r ∈ rows lv := by
  induction lv using rows_ind with
  | h0 =>
    intro r hl _
    rw [List.length_eq_zero_iff.mp hl]
    simp [rows]
  | hs lv l ih =>
    intro r hl h
    rw [List.length_append, List.length_singleton] at hl
    have hne : r ≠ [] := fun z => by rw [z] at hl; simp at hl
    obtain ⟨r', x, rfl⟩ : ∃ r' x, r = r' ++ [x] := ⟨r.dropLast, r.getLast hne, (List.dropLast_concat_getLast hne).symm⟩
    rw [List.length_append, List.length_singleton] at hl
    rw [rows_snoc]
    unfold stepRows
    refine List.mem_flatMap.mpr ⟨r', ih r' (by omega) fun i hi => ?_, List.mem_map.mpr ⟨x, ?_, rfl⟩⟩
    · obtain ⟨l', e, hlt⟩ := h i (by rw [List.length_append]; omega)
      rw [List.getElem?_append_left (by omega)] at e
      rw [List.getElem_append_left hi] at hlt
      exact ⟨l', e, hlt⟩
    · obtain ⟨l', e, hlt⟩ := h r'.length (by rw [List.length_append]; simp)
      rw [List.getElem?_append_right (by omega), show r'.length - lv.length = 0 by omega] at e
      have e : l = l' := by simpa using e
      rw [List.getElem_append_right (by omega)] at hlt
      have hlt : x < l' := by simpa using hlt
      rw [List.mem_range, e]
      exact hlt
section
open DM
theorem m_is_row_N {lv : List Nat} (hw : WL lv) (t : List Nat) : f_is_row [eR lv, eR t] = .rt (.bool (decide (t ∈ rows lv))) := by
  by_cases ht : t ∈ rows lv
  · rw [decide_eq_true ht]
    exact m_is_row hw ht
  · rw [decide_eq_false ht]
    have hn : lenD [eR lv] = some (.int (lv.length : Int)) := by simp [eR]
    have hn2 : lenD [eR t] = some (.int (t.length : Int)) := by simp [eR]
    have hi : isiD "tuple" (eR t) = some true := rfl
    unfold f_is_row
    rw [runD_eq]
    show ofS (g_is_row [some (.d (eR lv)), some (.d (eR t)), none]) = _
    unfold g_is_row
    by_cases hl : t.length = lv.length
    · have hlt : (t.length : Int) = (lv.length : Int) := by omega
      have e := lc_map (fi := cb rng1 (asCons (cb lenD (asCons (rdB 0) asNil)) asNil)) (t := tgName 2) (c := g_is_row_c1) (e := rd 2) (vs := [2]) (ρ := [some (.d (eR lv)), some (.d (eR t)), none]) (enc := eN) (p := fun i => !decide (t.getD i 0 < lv.getD i 0)) (g := eN) (List.range lv.length)
        (by
          simp only [cb_ap, asCons_ap, asNil_ap, rdB_ap, List.getElem?_cons_zero, Res.bind_ok, Res.map_ok, hn, Res.of_some]
          rw [rng1_N (by have := hw.hi; omega)]
          rfl)
        fun i hi => ⟨[some (.d (eR lv)), some (.d (eR t)), some (.d (eN i))], rfl, by
          have hi' := List.mem_range.mp hi
          have hit : i < t.length := by omega
          have a1 : atI (t.map eN) (i : Int) = some (eN t[i]) := atR hit
          have a2 : atI (lv.map eN) (i : Int) = some (eN lv[i]) := atR hi'
          have w := m_is_within ((t[i] : Nat) : Int) 0 ((lv[i] : Int) - 1)
          have hp : (!decide (t.getD i 0 < lv.getD i 0)) = !(decide ((0 : Int) ≤ ((t[i] : Nat) : Int)) && decide (((t[i] : Nat) : Int) ≤ (lv[i] : Int) - 1)) := by
            rw [List.getD_eq_getElem?_getD, List.getD_eq_getElem?_getD, List.getElem?_eq_getElem hit, List.getElem?_eq_getElem hi', decide_eq_true (show (0 : Int) ≤ ((t[i] : Nat) : Int) by omega), Bool.true_and]
            congr 1
            rw [decide_eq_decide]
            show t[i] < lv[i] ↔ _
            omega
          rw [hp]
          unfold g_is_row_c1
          rw [show eR lv = .tuple (lv.map eN) from rfl, show eR t = .tuple (t.map eN) from rfl, show eN i = .int (i : Int) from rfl]
          simp only [notT_ap, toTru_ap, callR_ap, asCons_ap, asNil_ap, op2_ap, rdB_ap, kst_ap, List.getElem?_cons_succ, List.getElem?_cons_zero, Res.bind_ok, Res.map_ok, ixD_tup, a1, a2, Res.of_some]
          simp only [eN, intD_int, if_true, Res.of_some, Res.bind_ok, Res.map_ok, List.length_cons, List.length_nil, Nat.zero_add, Nat.reduceAdd, w, res_rt, truD_bool], fun _ => rfl⟩
      have hne : ((List.range lv.length).filter fun i => !decide (t.getD i 0 < lv.getD i 0)) ≠ [] := fun z => ht (rows_of t hl fun i hi => by
        have hi' : i < lv.length := by omega
        have := List.filter_eq_nil_iff.mp z i (List.mem_range.mpr hi')
        have this : t.getD i 0 < lv.getD i 0 := by simpa using this
        rw [List.getD_eq_getElem?_getD, List.getD_eq_getElem?_getD, List.getElem?_eq_getElem hi, List.getElem?_eq_getElem hi'] at this
        exact ⟨lv[i], List.getElem?_eq_getElem hi', this⟩)
      have htr : truD (.list (((List.range lv.length).filter fun i => !decide (t.getD i 0 < lv.getD i 0)).map eN)) = some true := by
        rw [truD_list]
        cases hq : ((List.range lv.length).filter fun i => !decide (t.getD i 0 < lv.getD i 0)) with
        | nil => exact absurd hq hne
        | cons x xs => rfl
      simp only [seqS_ap, ifS_ap, retS_ap, thenS_ap, orT_ap, notT_ap, toTru_ap, toB_ap, isiR_ap, cb_ap, op2_ap, asCons_ap, asNil_ap, rdB_ap, List.getElem?_cons_succ, List.getElem?_cons_zero, Res.bind_ok, Res.map_ok, hi, Option.map_some, Res.of_some, truD_bool, hn, hn2, hlt, neD_int, decide_true, boolD_bool, Bool.not_true, Bool.false_eq_true, if_false, ofB_ap, frz_ap, e, htr]
      rfl
    · have hq : decide ((t.length : Int) = (lv.length : Int)) = false := decide_eq_false (by omega)
      simp only [seqS_ap, ifS_ap, retS_ap, thenS_ap, orT_ap, notT_ap, toTru_ap, toB_ap, isiR_ap, cb_ap, op2_ap, asCons_ap, asNil_ap, rdB_ap, kst_ap, List.getElem?_cons_succ, List.getElem?_cons_zero, Res.bind_ok, Res.map_ok, hi, Option.map_some, Res.of_some, truD_bool, hn, hn2, neD_int, hq, boolD_bool, Bool.not_true, Bool.not_false, Bool.false_eq_true, if_false, if_true]
      rfl
/-! ### rows that may be tests of another book -/
def rowOK (d : D) : Bool := match d with
  | .tuple xs => xs.all fun x => withinB x 0 99
  | _ => false
def firstBad : List D → Nat → Option Nat
  | [], _ => none
  | d :: r, n => if rowOK d = true then firstBad r (n + 1) else some n
theorem look_b1 {d : D} (hd : noDct d = true) {z0 z3 : Option B} (n : Int) : ∃ z, g_look_rows_b1 [z0, some (.d (.int n)), some (.d d), z3] = if rowOK d = true then .nx [z0, some (.d (.int n)), some (.d d), z] else .ex ⟨"BadTests", some n⟩ := by
  refine ⟨z3, ?_⟩
  unfold g_look_rows_b1
  have i0 := isi_tuple (nd_of hd)
  by_cases hl : ∃ xs, d = .tuple xs
  · obtain ⟨xs, rfl⟩ := hl
    have hx : noDctA xs = true := hd
    have e := lc_keep (fi := toSeq (rdB 2)) (t := tgName 3) (c := g_look_rows_c1) (e := rd 3) (vs := [3]) (ρ := [z0, some (.d (.int n)), some (.d (.tuple xs)), z3]) (p := fun x => !withinB x 0 99) xs rfl
      fun x hx' => ⟨[z0, some (.d (.int n)), some (.d (.tuple xs)), some (.d x)], rfl, by
        have w := m_within (nd_of (noDctA_mem hx x hx')) 0 99
        unfold g_look_rows_c1
        simp only [notT_ap, toTru_ap, callR_ap, asCons_ap, asNil_ap, rd_ap, kst_ap, List.getElem?_cons_succ, List.getElem?_cons_zero, Res.bind_ok, Res.map_ok, List.length_cons, List.length_nil, Nat.zero_add, Nat.reduceAdd, if_true, w, res_rt, truD_bool, Res.of_some], fun _ => rfl⟩
    have hn : truD (.list (xs.filter fun x => !withinB x 0 99)) = some (!rowOK (.tuple xs)) := by
      rw [truD_list, filter_isE]
      simp [rowOK]
    simp only [ifS_ap, thenS_ap, orT_ap, notT_ap, toTru_ap, isiR_ap, frz_ap, rdB_ap, List.getElem?_cons_succ, List.getElem?_cons_zero, Res.bind_ok, Res.map_ok, i0, Option.map_some, Res.of_some, truD_bool, Bool.not_true, Bool.false_eq_true, if_false, e, hn]
    cases rowOK (.tuple xs) <;> rfl
  · have i1 : isiD "tuple" d = some false := by
      rw [i0]
      cases d <;> first | rfl | exact absurd ⟨_, rfl⟩ hl
    have r : rowOK d = false := by cases d <;> first | rfl | exact absurd ⟨_, rfl⟩ hl
    simp only [ifS_ap, thenS_ap, orT_ap, notT_ap, toTru_ap, isiR_ap, rdB_ap, List.getElem?_cons_succ, List.getElem?_cons_zero, Res.bind_ok, Res.map_ok, i1, Option.map_some, Res.of_some, truD_bool, Bool.not_false, if_true, r, Bool.false_eq_true, if_false]
    rfl
theorem look_loop {z0 : Option B} : ∀ (ds : List D) (n : Nat) (z1 z2 z3 : Option B), noDctA ds = true → ∃ y1 y2 y3, forL (tgPair 1 2) g_look_rows_b1 ((ds.zipIdx n).map fun p => .tuple [.int ((p.2 : Nat) : Int), p.1]) [z0, z1, z2, z3] = match firstBad ds n with
    | none => .nx [z0, y1, y2, y3]
    | some j => .ex ⟨"BadTests", some (j : Int)⟩
  | [], n, z1, z2, z3, _ => ⟨z1, z2, z3, rfl⟩
  | d :: r, n, z1, z2, z3, h => by
    simp only [noDctA, Bool.and_eq_true] at h
    obtain ⟨z, e⟩ := look_b1 h.1 (z0 := z0) (z3 := z3) (n : Int)
    obtain ⟨y1, y2, y3, e2⟩ := look_loop r (n + 1) (some (.d (.int (n : Int)))) (some (.d d)) z h.2
    refine ⟨y1, y2, y3, ?_⟩
    have cons : forL (tgPair 1 2) g_look_rows_b1 (((d :: r).zipIdx n).map fun p : D × Nat => .tuple [.int ((p.2 : Nat) : Int), p.1]) [z0, z1, z2, z3] = (match g_look_rows_b1 [z0, some (.d (.int (n : Int))), some (.d d), z3] with
      | .nx ρ2 => forL (tgPair 1 2) g_look_rows_b1 ((r.zipIdx (n + 1)).map fun p : D × Nat => .tuple [.int ((p.2 : Nat) : Int), p.1]) ρ2
      | .ct ρ2 => forL (tgPair 1 2) g_look_rows_b1 ((r.zipIdx (n + 1)).map fun p : D × Nat => .tuple [.int ((p.2 : Nat) : Int), p.1]) ρ2
      | .bk ρ2 => .nx ρ2
      | o => o) := rfl
    rw [cons]
    rw [e]
    unfold firstBad
    cases hr : rowOK d with
    | true => exact e2
    | false => rfl
theorem m_look_rows {ds : List D} (h : noDctA ds = true) : f_look_rows [.list ds] = match firstBad ds 0 with
    | none => .rt .none
    | some j => .ex ⟨"BadTests", some (j : Int)⟩ := by
  obtain ⟨y1, y2, y3, e⟩ := look_loop (z0 := some (.d (.list ds))) ds 0 none none none h
  unfold f_look_rows
  rw [runD_eq]
  show ofS (g_look_rows [some (.d (.list ds)), none, none, none]) = _
  unfold g_look_rows
  simp only [seqS_ap, ifS_ap, forS_ap, thenS_ap, notT_ap, toTru_ap, isiR_ap, rd_ap, rdB_ap, List.getElem?_cons_succ, List.getElem?_cons_zero, Res.bind_ok, Res.map_ok, isi_list_list, Option.map_some, Res.of_some, truD_bool, Bool.not_true, Bool.false_eq_true, if_false, toEnum_ap, seqOf_list, enumL, e]
  cases firstBad ds 0 <;> rfl
theorem m_look_rows_tup (ds : List D) : f_look_rows [.tuple ds] = .ex ⟨"BadTests", some 0⟩ := by
  have i1 : isiD "list" (.tuple ds) = some false := isi_list rfl
  unfold f_look_rows
  rw [runD_eq]
  show ofS (g_look_rows [some (.d (.tuple ds)), none, none, none]) = _
  unfold g_look_rows
  simp only [seqS_ap, ifS_ap, thenS_ap, notT_ap, toTru_ap, isiR_ap, rdB_ap, kst_ap, List.getElem?_cons_succ, List.getElem?_cons_zero, Res.bind_ok, Res.map_ok, i1, Option.map_some, Res.of_some, truD_bool, Bool.not_false, if_true]
  rfl
variable {b : Book} {s : Nat}
theorem m_filledN {n : Nat} {P : List Meet} (h : WF b) (hf : Fit n P (tests b)) (hs : ∀ m ∈ P, ∃ t ∈ tests b, meets t m = true) {f0 : List (List Nat)} (h0 : Fit n P f0) (h81 : f0.length ≤ 1000) : f_filled [eB b, .list (P.map eM), .list (f0.map eR)] = .ro ((fillM (tests b) P f0).found.map eR) := by
  have hev := tests_len h
  have loop := while_iter (w := g_filled_w1) (b := g_filled_b1) (fun (a : FS) ρ => FK n P (tests b) f0 a ∧ ∃ x y, ρ = [some (.d (eB b)), some (.d (.list (P.map eM))), some (.d (.list (f0.map eR))), some (.own (a.found.map eR)), some (.d (.list (a.left.map eM))), some (.d (.list ((tests b).map eR))), x, y]) fillGo (fillStep (tests b)) (fun a => a.left.length)
    (fun a ρ ⟨_, x, y, e⟩ => by
      subst e
      unfold g_filled_w1 fillGo
      simp only [toTru_ap, rdB_ap, List.getElem?_cons_succ, List.getElem?_cons_zero, Res.bind_ok, truD_list, Res.of_some, isEmpty_map])
    (fun a ρ ⟨ha, x, y, e⟩ hc => by
      subst e
      have hr := fillGo_ne hc
      obtain ⟨hst, hlt⟩ := ha.step hr
      obtain ⟨hne, _⟩ := ha.ev hr
      obtain ⟨hg, _⟩ := fillAt_get hne
      refine ⟨hlt, [some (.d (eB b)), some (.d (.list (P.map eM))), some (.d (.list (f0.map eR))), some (.own ((fillStep (tests b) a).found.map eR)), some (.d (.list ((fillStep (tests b) a).left.map eM))), some (.d (.list ((tests b).map eR))), x, some (.d (.list (((tests b).map (newsM a.left)).map eN)))], ?_, hst, _, _, rfl⟩
      have fit1 : ∀ t ∈ tests b, Fit n a.left [t] := fun t htt => ⟨fun t' ht' => by rw [List.mem_singleton.mp ht']; exact hf.len t htt, fun m hm => hf.lt m (ha.sub m hm), Nat.le_trans ha.few hf.few, by simp⟩
      have e1 := lc_map (fi := toSeq (rdB 5)) (t := tgName 6) (c := yes) (e := g_filled_e1) (vs := [6]) (ρ := [some (.d (eB b)), some (.d (.list (P.map eM))), some (.d (.list (f0.map eR))), some (.own (a.found.map eR)), some (.d (.list (a.left.map eM))), some (.d (.list ((tests b).map eR))), x, y]) (enc := eR) (p := fun _ => true) (g := fun t => eN (newsM a.left t)) (tests b) rfl
        fun t htt => ⟨[some (.d (eB b)), some (.d (.list (P.map eM))), some (.d (.list (f0.map eR))), some (.own (a.found.map eR)), some (.d (.list (a.left.map eM))), some (.d (.list ((tests b).map eR))), some (.d (eR t)), y], rfl, rfl, fun _ => by
          unfold g_filled_e1
          simp only [callR_ap, asCons_ap, asNil_ap, rd_ap, List.getElem?_cons_succ, List.getElem?_cons_zero, Res.bind_ok, Res.map_ok, List.length_cons, List.length_nil, Nat.zero_add, Nat.reduceAdd, if_true, m_new_met (fit1 t htt), res_rt]
          rfl⟩
      rw [List.filter_eq_self.mpr (fun _ _ => rfl)] at e1
      have e1' : (tests b).map (fun t => eN (newsM a.left t)) = ((tests b).map (newsM a.left)).map eN := by rw [List.map_map]; rfl
      rw [e1'] at e1
      have a1 : atI ((tests b).map eR) ((maxAt ((tests b).map (newsM a.left)) : Nat) : Int) = some (eR (fillAt (tests b) a)) := DL.atI_nat (by rw [List.getElem?_map, hg]; rfl)
      have hz : a.found.length < sizeLine := by
        have h1 := ha.flen
        have h2 := hf.few
        have := sizeLine_big
        omega
      have u1 := m_unmet (fit1 _ (List.mem_of_getElem? hg))
      rw [show ([fillAt (tests b) a].map eR : List D) = [eR (fillAt (tests b) a)] from rfl] at u1
      unfold g_filled_b1
      simp only [seqS_ap, setS_ap, thenS_ap, frz_ap, e1, Res.map_ok, List.set_cons_succ, List.set_cons_zero]
      rw [appS_own (xs := a.found.map eR) _ rfl]
      unfold idxR
      simp only [thenS_ap, op2_ap, rdB_ap, cb_ap, asCons_ap, asNil_ap, List.getElem?_cons_succ, List.getElem?_cons_zero, Res.bind_ok, Res.map_ok, maxLD_N hne, Res.of_some, indexD_N hne, ixD_list, a1, List.length_map, hz, if_true, List.set_cons_succ, List.set_cons_zero, callR_ap, rd_ap, sl3_ap, ptS_ap, ptN_ap, negR_ap, kst_ap, intOf_int, last_cut, List.length_cons, List.length_nil, Nat.zero_add, Nat.reduceAdd, u1, res_ro]
      simp [fillStep])
  obtain ⟨ρ', w1, ⟨_, x, y, rfl⟩, _⟩ := loop P.length ⟨unmetM P f0, f0⟩ [some (.d (eB b)), some (.d (.list (P.map eM))), some (.d (.list (f0.map eR))), some (.own (f0.map eR)), some (.d (.list ((unmetM P f0).map eM))), some (.d (.list ((tests b).map eR))), none, none] (List.length_filter_le _ _)
    ⟨⟨hf, hev, fun _ z => unmet_sub _ z, List.length_filter_le _ _, hs, fun _ z => .inr z, Nat.add_le_add_left (List.length_filter_le _ _) _, rfl⟩, none, none, rfl⟩
  have u0 := m_unmet h0
  have e4 : lendO 3 (callO 2 f_unmet (asCons (rd 1) (asCons (rd 3) asNil))) [some (.d (eB b)), some (.d (.list (P.map eM))), some (.d (.list (f0.map eR))), some (.own (f0.map eR)), none, none, none, none] = .ok ((unmetM P f0).map eM) := by
    rw [lendO_own (xs := f0.map eR) rfl]
    simp only [frzAt_ap, List.getElem?_cons_succ, List.getElem?_cons_zero, List.set_cons_succ, List.set_cons_zero, callO_ap, asCons_ap, asNil_ap, rd_ap, Res.bind_ok, Res.map_ok, List.length_cons, List.length_nil, Nat.zero_add, Nat.reduceAdd, if_true, u0, own_ro]
    have : flatA ((unmetM P f0).map eM) = true := flatA_map (fun m => by
      show flatA (m.map eP) = true
      exact flatA_map (fun p => rfl) m) _
    rw [this]
    rfl
  unfold f_filled
  rw [runD_eq]
  show ofS (g_filled [some (.d (eB b)), some (.d (.list (P.map eM))), some (.d (.list (f0.map eR))), none, none, none, none, none]) = _
  unfold g_filled
  simp only [seqS_ap, setS_ap, setO_ap, thenS_ap, cb_ap, callR_ap, asCons_ap, asNil_ap, rd_ap, rdB_ap, List.getElem?_cons_succ, List.getElem?_cons_zero, Res.bind_ok, Res.map_ok, List.length_cons, List.length_nil, Nat.zero_add, if_true, toListD_list, Res.of_some, List.set_cons_succ, List.set_cons_zero, frz_ap, e4, m_tests_of h, res_ro, w1, retV_ap, ofS_ro]
  rfl
end
end DL

/-! The plain part, 40: kept, lengthened. -/
namespace DL
open PySem PySem.Spec PyProof.Rows L2
def stayStep (b : Book) (st : List (List Nat)) (r : List Nat) : List (List Nat) := if (decide (r ∈ tests b) && !st.contains r) = true then st ++ [r] else st
def stayM (b : Book) (rs : List (List Nat)) : List (List Nat) := rs.foldl (stayStep b) []
theorem stayM_snoc (b : Book) (rs : List (List Nat)) (r : List Nat) : stayM b (rs ++ [r]) = stayStep b (stayM b rs) r := by simp [stayM, List.foldl_append]
theorem stay_sub (b : Book) (rs : List (List Nat)) : (∀ t ∈ stayM b rs, t ∈ tests b) ∧ (stayM b rs).length ≤ rs.length := by
  suffices h : ∀ n : Nat, ∀ rs : List (List Nat), rs.length = n → (∀ t ∈ stayM b rs, t ∈ tests b) ∧ (stayM b rs).length ≤ rs.length from h _ rs rfl
  intro n
  induction n with
  | zero =>
    intro rs hl
    rw [List.length_eq_zero_iff.mp hl]
    exact ⟨fun t z => by (cases z), Nat.le_refl _⟩
  | succ n ih =>
    intro rs hl
    have hne : rs ≠ [] := fun z => by rw [z] at hl; cases hl
    obtain ⟨r', x, rfl⟩ : ∃ r' x, rs = r' ++ [x] := ⟨rs.dropLast, rs.getLast hne, (List.dropLast_concat_getLast hne).symm⟩
    rw [List.length_append, List.length_singleton] at hl
    obtain ⟨i1, i2⟩ := ih r' (by omega)
    rw [stayM_snoc]
    unfold stayStep
    split
    · rename_i hc
      rw [Bool.and_eq_true] at hc
      refine ⟨fun t ht => ?_, ?_⟩
      · rcases List.mem_append.mp ht with ht | ht
        · exact i1 t ht
        · rw [List.mem_singleton.mp ht]; exact of_decide_eq_true hc.1
      · rw [List.length_append, List.length_append]; simp; omega
    · exact ⟨i1, by rw [List.length_append]; omega⟩
theorem down2 {n m : Nat} (h : n ≤ 1000) (hm : m ≤ n) : rng3 [.int ((n : Int) - 1), .int ((m : Int) - 1), .int (-1)] = some ((List.range (n - m)).map fun k : Nat => .int ((n : Int) - 1 - (k : Int))) := by
  have e : rng3 [.int ((n : Int) - 1), .int ((m : Int) - 1), .int (-1)] = if (smallR ((n : Int) - 1) && smallR ((m : Int) - 1) && decide ((-1 : Int) = -1)) = true then some (downFrom ((n : Int) - 1) ((n : Int) - 1 - ((m : Int) - 1)).toNat) else none := rfl
  rw [e]
  have h1 : smallR ((n : Int) - 1) = true := by unfold smallR; rw [Nat.ble_eq]; omega
  have h2 : smallR ((m : Int) - 1) = true := by unfold smallR; rw [Nat.ble_eq]; omega
  rw [h1, h2, if_pos (by rfl), show ((n : Int) - 1 - ((m : Int) - 1)).toNat = n - m by omega]
  rfl
def fillF (b : Book) (s : Nat) (rs : List (List Nat)) : List (List Nat) := (fillM (tests b) (poss b s) (stayM b rs)).found
def keptM (b : Book) (s : Nat) (rs : List (List Nat)) : List (List Nat) := trimK (poss b s) (fillF b s rs) (List.range ((fillF b s rs).length - (stayM b rs).length))
theorem fill_okN {n : Nat} {P : List Meet} {ev f0 : List (List Nat)} (hf : Fit n P ev) (he : ev.length ≤ 81) (hs : ∀ m ∈ P, ∃ t ∈ ev, meets t m = true) : FK n P ev f0 (fillM ev P f0) ∧ (fillM ev P f0).left = [] := by
  have h0 : FK n P ev f0 ⟨unmetM P f0, f0⟩ := ⟨hf, he, fun m hm => unmet_sub m hm, List.length_filter_le _ _, hs, fun _ z => .inr z, Nat.add_le_add_left (List.length_filter_le _ _) _, rfl⟩
  have key : ∀ (k : Nat) (a : FS), FK n P ev f0 a → a.left.length ≤ k → FK n P ev f0 (iter fillGo (fillStep ev) k a) ∧ (iter fillGo (fillStep ev) k a).left = [] := by
    intro k
    induction k with
    | zero => intro a ha hk; exact ⟨ha, List.eq_nil_of_length_eq_zero (show a.left.length = 0 by omega)⟩
    | succ k ih =>
      intro a ha hk
      unfold iter
      split
      · rename_i hc
        obtain ⟨h1, h2⟩ := ha.step (fillGo_ne hc)
        exact ih _ h1 (by omega)
      · rename_i hc
        refine ⟨ha, ?_⟩
        unfold fillGo at hc
        simpa using hc
  exact key P.length _ h0 (List.length_filter_le _ _)
theorem fill_pre (ev : List (List Nat)) (P : List Meet) (f0 : List (List Nat)) : ∃ w, (fillM ev P f0).found = f0 ++ w :=
  iter_keeps (fun x : FS => ∃ w, x.found = f0 ++ w) (fun x ⟨w, e⟩ _ => ⟨w ++ [fillAt ev x], by
    show x.found ++ [fillAt ev x] = _
    rw [e, List.append_assoc]⟩) P.length _ ⟨[], by simp⟩
structure Kept (b : Book) (s : Nat) (st suf : List (List Nat)) : Prop where
  sub : ∀ t ∈ suf, t ∈ tests b
  cov : unmetM (poss b s) (st ++ suf) = []
  need : ∀ s1 x s2, suf = s1 ++ x :: s2 → unmetM (poss b s) (st ++ (s1 ++ s2)) ≠ []
  few : suf.length ≤ 300
section
variable {b : Book} {s : Nat}
theorem fillF_ok (h : WF b) (s1 : 1 ≤ s) (s3 : s ≤ 3) (rs : List (List Nat)) : (∀ t ∈ fillF b s rs, t ∈ tests b) ∧ unmetM (poss b s) (fillF b s rs) = [] ∧ (fillF b s rs).length ≤ rs.length + 200 := by
  have hf := fit_of h s1 s3 (ts := tests b) (fun t ht => ht) (by have := tests_len h; omega)
  obtain ⟨h1, h2⟩ := fill_okN hf (tests_len h) poss_met (f0 := stayM b rs)
  obtain ⟨g1, g2⟩ := stay_sub b rs
  refine ⟨fun t ht => ?_, ?_, ?_⟩
  · rcases h1.fsub t ht with ht | ht
    · exact ht
    · exact g1 t ht
  · have := h1.left
    rw [h2] at this
    exact this.symm
  · have l1 := h1.flen
    have l2 := hf.few
    show (fillM (tests b) (poss b s) (stayM b rs)).found.length ≤ _
    omega
theorem kept_ok (h : WF b) (s1 : 1 ≤ s) (s3 : s ≤ 3) {rs : List (List Nat)} (hl : rs.length ≤ 50) : ∃ suf, keptM b s rs = stayM b rs ++ suf ∧ Kept b s (stayM b rs) suf := by
  obtain ⟨f1, f2, f3⟩ := fillF_ok h s1 s3 rs
  obtain ⟨w, hw⟩ := fill_pre (tests b) (poss b s) (stayM b rs)
  have hle : (stayM b rs).length ≤ (fillF b s rs).length := by unfold fillF; rw [hw, List.length_append]; omega
  obtain ⟨suf, h1, h2, h3, h4⟩ := trim_split (poss b s) (fillF b s rs) ((fillF b s rs).length - (stayM b rs).length) (by omega)
  have ht : (fillF b s rs).take ((fillF b s rs).length - ((fillF b s rs).length - (stayM b rs).length)) = stayM b rs := by
    rw [show (fillF b s rs).length - ((fillF b s rs).length - (stayM b rs).length) = (stayM b rs).length by omega]
    unfold fillF
    rw [hw, List.take_left]
  rw [ht] at h1 h3 h4
  refine ⟨suf, h1, fun t htt => f1 t (h2 t htt), by rw [h3, f2], fun s1 x s2 e => by rw [← f2]; exact h4 s1 x s2 e, ?_⟩
  have hk := (trimK_sub (poss b s) (fillF b s rs) (List.range ((fillF b s rs).length - (stayM b rs).length))).2.1
  rw [h1, List.length_append] at hk
  omega
end
section
open DM
variable {b : Book} {s : Nat}
theorem test_is (h : WF b) (r : List Nat) {z1 z2 z5 z6 z7 : Option B} {st : List (List Nat)} (hz : st.length ≤ 1000) : g_kept_b1 [some (.d (eB b)), z1, z2, some (.own (st.map eR)), some (.d (eR r)), z5, z6, z7] = .nx [some (.d (eB b)), z1, z2, some (.own ((stayStep b st r).map eR)), some (.d (eR r)), z5, z6, z7] := by
  have hl : ixD (eB b) (.int 0) = some (eR b.1) := by simp [eB]
  have m1 := m_is_row_N h.wl r
  have sz := sizeLine_big
  have hz2 : (st.map eR).length < sizeLine := by rw [List.length_map]; omega
  unfold g_kept_b1 stayStep
  by_cases hr : r ∈ rows b.1
  · rw [decide_eq_true hr] at m1
    have hlen := rows_mem_len b.1 r hr
    have m2 := m_is_allowed (b := b) (t := r) fun m hm p hp => by rw [hlen]; exact (h.ban m hm).lt p hp
    have m3 := in_R true r st
    cases ha : allowed b r with
    | false =>
      rw [ha] at m2
      have ht : decide (r ∈ tests b) = false := decide_eq_false fun z => by have := (List.mem_filter.mp z).2; rw [ha] at this; cases this
      simp only [ifS_ap, thenS_ap, andT_ap, toTru_ap, callR_ap, asCons_ap, asNil_ap, op2_ap, rd_ap, rdB_ap, kst_ap, List.getElem?_cons_succ, List.getElem?_cons_zero, Res.bind_ok, Res.map_ok, hl, Res.of_some, List.length_cons, List.length_nil, Nat.zero_add, Nat.reduceAdd, if_true, m1, m2, res_rt, truD_bool, Bool.false_eq_true, if_false, ht, Bool.false_and]
    | true =>
      rw [ha] at m2
      have ht : decide (r ∈ tests b) = true := decide_eq_true (List.mem_filter.mpr ⟨hr, ha⟩)
      cases hc : st.contains r with
      | true =>
        rw [hc] at m3
        simp only [ifS_ap, thenS_ap, andT_ap, toTru_ap, toB_ap, callR_ap, asCons_ap, asNil_ap, op2_ap, rd_ap, rdB_ap, kst_ap, List.getElem?_cons_succ, List.getElem?_cons_zero, Res.bind_ok, Res.map_ok, hl, Res.of_some, List.length_cons, List.length_nil, Nat.zero_add, Nat.reduceAdd, if_true, m1, m2, m3, res_rt, truD_bool, boolD_bool, Bool.true_xor, Bool.not_true, Bool.false_eq_true, if_false, ht, Bool.and_false]
      | false =>
        rw [hc] at m3
        simp only [ifS_ap, thenS_ap, andT_ap, toTru_ap, toB_ap, callR_ap, asCons_ap, asNil_ap, op2_ap, rd_ap, rdB_ap, kst_ap, List.getElem?_cons_succ, List.getElem?_cons_zero, Res.bind_ok, Res.map_ok, hl, Res.of_some, List.length_cons, List.length_nil, Nat.zero_add, Nat.reduceAdd, if_true, m1, m2, m3, res_rt, truD_bool, boolD_bool, Bool.true_xor, Bool.not_false, ht, Bool.and_self]
        rw [appS_own (xs := st.map eR) _ rfl]
        simp only [thenS_ap, rd_ap, List.getElem?_cons_succ, List.getElem?_cons_zero, hz2, if_true, List.set_cons_succ, List.set_cons_zero, List.map_append, List.map_cons, List.map_nil]
  · rw [decide_eq_false hr] at m1
    have ht : decide (r ∈ tests b) = false := decide_eq_false fun z => hr (List.mem_filter.mp z).1
    simp only [ifS_ap, thenS_ap, andT_ap, toTru_ap, callR_ap, asCons_ap, asNil_ap, op2_ap, rd_ap, rdB_ap, kst_ap, List.getElem?_cons_succ, List.getElem?_cons_zero, Res.bind_ok, Res.map_ok, hl, Res.of_some, List.length_cons, List.length_nil, Nat.zero_add, Nat.reduceAdd, if_true, m1, res_rt, truD_bool, Bool.false_eq_true, if_false, ht, Bool.false_and]
theorem m_kept_bad (h : WF b) (s1 : 1 ≤ s) (s3 : s ≤ 3) (sl : s ≤ b.1.length) {d : D} {c : Exc} (he : f_look_rows [d] = .ex c) : f_kept [eB b, .int (s : Int), d] = .ex c := by
  unfold f_kept
  rw [runD_eq]
  show ofS (g_kept [some (.d (eB b)), some (.d (.int (s : Int))), some (.d d), none, none, none, none, none]) = _
  unfold g_kept
  simp only [seqS_ap, dropS_ap, thenS_ap, callR_ap, asCons_ap, asNil_ap, rd_ap, List.getElem?_cons_succ, List.getElem?_cons_zero, Res.bind_ok, Res.map_ok, List.length_cons, List.length_nil, Nat.zero_add, Nat.reduceAdd, if_true, m_look_strength h s1 s3 sl, res_rt, he, res_ex, ofS_ex]
theorem m_lengthened_bad {d x : D} {c : Exc} (he : f_look_rows [d] = .ex c) : f_lengthened [d, x] = .ex c := by
  unfold f_lengthened
  rw [runD_eq]
  show ofS (g_lengthened [some (.d d), some (.d x), none]) = _
  unfold g_lengthened
  simp only [seqS_ap, dropS_ap, thenS_ap, callR_ap, asCons_ap, asNil_ap, rd_ap, List.getElem?_cons_succ, List.getElem?_cons_zero, Res.bind_ok, Res.map_ok, List.length_cons, List.length_nil, Nat.zero_add, Nat.reduceAdd, if_true, he, res_ex, ofS_ex]
theorem m_lengthened_no {d x : D} (hx : noDct x = true) (hw : withinB x 0 3 = false) (he : f_look_rows [d] = .rt .none) : f_lengthened [d, x] = .ex ⟨"BadNumber", none⟩ := by
  have w := m_within (nd_of hx) 0 3
  rw [hw] at w
  unfold f_lengthened
  rw [runD_eq]
  show ofS (g_lengthened [some (.d d), some (.d x), none]) = _
  unfold g_lengthened raiseS
  simp only [seqS_ap, dropS_ap, ifS_ap, thenS_ap, notT_ap, toTru_ap, callR_ap, asCons_ap, asNil_ap, rd_ap, kst_ap, List.getElem?_cons_succ, List.getElem?_cons_zero, Res.bind_ok, Res.map_ok, List.length_cons, List.length_nil, Nat.zero_add, Nat.reduceAdd, if_true, he, res_rt, w, truD_bool, Res.of_some, Bool.not_false, ofS_ex]
theorem longer (r : List Nat) (hr : r.length ≤ 1000) (k : Nat) : addD (eR r) (.tuple [.int (k : Int)]) = some (eR (r ++ [k])) := by
  have sz := sizeLine_big
  show (if (r.map eN).length + 1 ≤ sizeLine then some (PyData.tuple (r.map eN ++ [eN k])) else none) = _
  rw [if_pos (by rw [List.length_map]; omega)]
  simp [eR]
theorem m_lengthened {rs : List (List Nat)} (hr : ∀ r ∈ rs, r.length ≤ 1000) {k : Nat} (hk : k ≤ 3) (he : f_look_rows [.list (rs.map eR)] = .rt .none) : f_lengthened [.list (rs.map eR), .int (k : Int)] = .ro ((rs.map fun r => r ++ [k]).map eR) := by
  have w := m_within (d := .int (k : Int)) rfl 0 3
  have hw : withinB (.int (k : Int)) 0 3 = true := by
    show (decide ((0 : Int) ≤ (k : Int)) && decide ((k : Int) ≤ 3)) = true
    rw [decide_eq_true (by omega), decide_eq_true (by omega)]; rfl
  rw [hw] at w
  have e := lc_map (fi := toSeq (rdB 0)) (t := tgName 2) (c := yes) (e := g_lengthened_e1) (vs := [2]) (ρ := [some (.d (.list (rs.map eR))), some (.d (.int (k : Int))), none]) (enc := eR) (p := fun _ => true) (g := fun r => eR (r ++ [k])) rs rfl
    fun r hrr => ⟨[some (.d (.list (rs.map eR))), some (.d (.int (k : Int))), some (.d (eR r))], rfl, rfl, fun _ => by
      unfold g_lengthened_e1
      simp only [op2_ap, dispT_ap, disp_ap, asCons_ap, asNil_ap, rd_ap, rdB_ap, List.getElem?_cons_succ, List.getElem?_cons_zero, Res.bind_ok, Res.map_ok, List.length_cons, List.length_nil, Nat.zero_add, Nat.reduceLeDiff, if_true, longer r (hr r hrr) k, Res.of_some]⟩
  rw [List.filter_eq_self.mpr (fun _ _ => rfl)] at e
  have em : rs.map (fun r => eR (r ++ [k])) = (rs.map fun r => r ++ [k]).map eR := by rw [List.map_map]; rfl
  rw [em] at e
  unfold f_lengthened
  rw [runD_eq]
  show ofS (g_lengthened [some (.d (.list (rs.map eR))), some (.d (.int (k : Int))), none]) = _
  unfold g_lengthened
  simp only [seqS_ap, dropS_ap, ifS_ap, retO_ap, thenS_ap, notT_ap, toTru_ap, callR_ap, asCons_ap, asNil_ap, rd_ap, kst_ap, List.getElem?_cons_succ, List.getElem?_cons_zero, Res.bind_ok, Res.map_ok, List.length_cons, List.length_nil, Nat.zero_add, Nat.reduceAdd, if_true, he, res_rt, w, truD_bool, Res.of_some, Bool.not_true, Bool.false_eq_true, if_false, e, ofS_ro]
theorem slice_erase (xs : List (List Nat)) (i : Nat) (h : xs.length ≤ 10000) {fx fi : Rho → Res D} {ρ : Rho} (hx : fx ρ = .ok (.list (xs.map eR))) (hi : fi ρ = .ok (.int (i : Int))) : op2 addD (sl3 cutD fx ptN (ptS fi)) (sl3 cutD fx (ptS (op2 addD fi (kst (.int 1)))) ptN) ρ = .ok (.list ((xs.eraseIdx i).map eR)) := by
  have e1 := cutD_to (xs.map eR) i
  have e2 := cutD_from (xs.map eR) (i + 1)
  rw [Int.natCast_add, show ((1 : Nat) : Int) = 1 from rfl] at e2
  have hz : ((xs.map eR).take i).length + ((xs.map eR).drop (i + 1)).length ≤ sizeLine := by
    have := sizeLine_big
    rw [List.length_take, List.length_drop, List.length_map]
    omega
  have e3 : addD (.list ((xs.map eR).take i)) (.list ((xs.map eR).drop (i + 1))) = some (.list ((xs.eraseIdx i).map eR)) := by
    show (if _ then _ else _) = _
    rw [if_pos hz, ← List.map_take, ← List.map_drop, ← List.map_append, take_drop_erase]
  simp only [op2_ap, sl3_ap, ptN_ap, ptS_ap, hx, hi, kst_ap, Res.bind_ok, Res.map_ok, intOf_int, Res.of_some, addD_int, e1, e2, e3]
theorem m_kept (h : WF b) (s1 : 1 ≤ s) (s3 : s ≤ 3) (sl : s ≤ b.1.length) {rs : List (List Nat)} (hl : rs.length ≤ 50) (he : f_look_rows [.list (rs.map eR)] = .rt .none) : f_kept [eB b, .int (s : Int), .list (rs.map eR)] = .rt (.list ((keptM b s rs).map eR)) := by
  obtain ⟨f1, f2, f3⟩ := fillF_ok h s1 s3 rs
  obtain ⟨g1, g2⟩ := stay_sub b rs
  have hf := fit_of h s1 s3 (ts := tests b) (fun t ht => ht) (by have := tests_len h; omega)
  have hfs := fit_of h s1 s3 g1 (by omega)
  have hff := fit_of h s1 s3 f1 (by omega)
  have hp := m_possible_of h s1 s3
  obtain ⟨w, hw⟩ := fill_pre (tests b) (poss b s) (stayM b rs)
  have hle : (stayM b rs).length ≤ (fillF b s rs).length := by unfold fillF; rw [hw, List.length_append]; omega
  have hfill := m_filledN h hf poss_met hfs (by omega)
  rw [show (fillM (tests b) (poss b s) (stayM b rs)).found = fillF b s rs from rfl] at hfill
  obtain ⟨ρ1, w1, y4, rfl⟩ : ∃ ρ', forL (tgName 4) g_kept_b1 (rs.map eR) [some (.d (eB b)), some (.d (.int (s : Int))), some (.d (.list (rs.map eR))), some (.own []), none, none, none, none] = .nx ρ' ∧
      ∃ y4, ρ' = [some (.d (eB b)), some (.d (.int (s : Int))), some (.d (.list (rs.map eR))), some (.own ((stayM b rs).map eR)), y4, none, none, none] := by
    refine forL_inv (fun d ρ => ∃ y4, ρ = [some (.d (eB b)), some (.d (.int (s : Int))), some (.d (.list (rs.map eR))), some (.own ((stayM b d).map eR)), y4, none, none, none]) rs ?_ ⟨none, rfl⟩
    rintro d r rest ρ e ⟨y4, rfl⟩
    have hd : (stayM b d).length ≤ 1000 := by
      have := (stay_sub b d).2
      rw [e, List.length_append] at hl
      omega
    refine ⟨_, _, rfl, test_is h r (z1 := some (.d (.int (s : Int)))) (z2 := some (.d (.list (rs.map eR)))) (z5 := none) (z6 := none) (z7 := none) hd, some (.d (eR r)), by rw [stayM_snoc]⟩
  obtain ⟨ρ2, w2, y7, rfl⟩ : ∃ ρ', forL (tgName 7) g_kept_b2 ((List.range ((fillF b s rs).length - (stayM b rs).length)).map fun k : Nat => .int (((fillF b s rs).length : Int) - 1 - (k : Int))) [some (.d (eB b)), some (.d (.int (s : Int))), some (.d (.list (rs.map eR))), some (.own ((stayM b rs).map eR)), y4, some (.d (.list ((poss b s).map eM))), some (.d (.list ((fillF b s rs).map eR))), none] = .nx ρ' ∧
      ∃ y7, ρ' = [some (.d (eB b)), some (.d (.int (s : Int))), some (.d (.list (rs.map eR))), some (.own ((stayM b rs).map eR)), y4, some (.d (.list ((poss b s).map eM))), some (.d (.list ((keptM b s rs).map eR))), y7] := by
    refine forL_inv (fun d ρ => ∃ y7, ρ = [some (.d (eB b)), some (.d (.int (s : Int))), some (.d (.list (rs.map eR))), some (.own ((stayM b rs).map eR)), y4, some (.d (.list ((poss b s).map eM))), some (.d (.list ((trimK (poss b s) (fillF b s rs) d).map eR))), y7]) (List.range ((fillF b s rs).length - (stayM b rs).length)) ?_ ⟨none, rfl⟩
    rintro d k r ρ e ⟨y7, rfl⟩
    have hk : k < (fillF b s rs).length - (stayM b rs).length := List.mem_range.mp (by rw [e]; simp)
    obtain ⟨t1, t2, t3⟩ := trimK_sub (poss b s) (fillF b s rs) d
    have hft : Fit b.1.length (poss b s) (trimK (poss b s) (fillF b s rs) d) := hff.sub t1 (by omega)
    refine ⟨_, [some (.d (eB b)), some (.d (.int (s : Int))), some (.d (.list (rs.map eR))), some (.own ((stayM b rs).map eR)), y4, some (.d (.list ((poss b s).map eM))), some (.d (.list ((trimK (poss b s) (fillF b s rs) (d ++ [k])).map eR))), some (.d (.int (((fillF b s rs).length - 1 - k : Nat) : Int)))], rfl, ?_, _, rfl⟩
    rw [down_at (by omega), trimK_snoc]
    show g_kept_b2 [some (.d (eB b)), some (.d (.int (s : Int))), some (.d (.list (rs.map eR))), some (.own ((stayM b rs).map eR)), y4, some (.d (.list ((poss b s).map eM))), some (.d (.list ((trimK (poss b s) (fillF b s rs) d).map eR))), some (.d (.int (((fillF b s rs).length - 1 - k : Nat) : Int)))] = _
    have sl1 := slice_erase (trimK (poss b s) (fillF b s rs) d) ((fillF b s rs).length - 1 - k) (by omega) (fx := rdB 6) (fi := rdB 7) (ρ := [some (.d (eB b)), some (.d (.int (s : Int))), some (.d (.list (rs.map eR))), some (.own ((stayM b rs).map eR)), y4, some (.d (.list ((poss b s).map eM))), some (.d (.list ((trimK (poss b s) (fillF b s rs) d).map eR))), some (.d (.int (((fillF b s rs).length - 1 - k : Nat) : Int)))]) rfl rfl
    unfold g_kept_b2 tStep
    rw [f2]
    have ht : truD (.list ((unmetM (poss b s) ((trimK (poss b s) (fillF b s rs) d).eraseIdx ((fillF b s rs).length - 1 - k))).map eM)) = some (!decide (unmetM (poss b s) ((trimK (poss b s) (fillF b s rs) d).eraseIdx ((fillF b s rs).length - 1 - k)) = [])) := by
      rw [truD_list]
      cases unmetM (poss b s) ((trimK (poss b s) (fillF b s rs) d).eraseIdx ((fillF b s rs).length - 1 - k)) <;> rfl
    simp only [ifS_ap, setS_ap, thenS_ap, notT_ap, toTru_ap, callR_ap, asCons_ap, asNil_ap, sl1, rd_ap, List.getElem?_cons_succ, List.getElem?_cons_zero, Res.bind_ok, Res.map_ok, List.length_cons, List.length_nil, Nat.zero_add, Nat.reduceAdd, if_true, m_unmet (hft.erase _), res_ro, ht, Res.of_some, Bool.not_not, List.set_cons_succ, List.set_cons_zero]
    by_cases hc : unmetM (poss b s) ((trimK (poss b s) (fillF b s rs) d).eraseIdx ((fillF b s rs).length - 1 - k)) = []
    · rw [if_pos (decide_eq_true hc), if_pos hc]
    · rw [if_neg (by rw [decide_eq_false hc]; decide), if_neg hc]
  have e4 : lendO 3 (callO 3 f_filled (asCons (rd 0) (asCons (rd 5) (asCons (rd 3) asNil)))) [some (.d (eB b)), some (.d (.int (s : Int))), some (.d (.list (rs.map eR))), some (.own ((stayM b rs).map eR)), y4, some (.d (.list ((poss b s).map eM))), none, none] = .ok ((fillF b s rs).map eR) := by
    rw [lendO_own (xs := (stayM b rs).map eR) rfl]
    simp only [frzAt_ap, List.getElem?_cons_succ, List.getElem?_cons_zero, List.set_cons_succ, List.set_cons_zero, callO_ap, asCons_ap, asNil_ap, rd_ap, Res.bind_ok, Res.map_ok, List.length_cons, List.length_nil, Nat.zero_add, Nat.reduceAdd, if_true, hfill, own_ro, flatA_map flat_R]
  have l6 : lenD [.list ((fillF b s rs).map eR)] = some (.int ((fillF b s rs).length : Int)) := by rw [lenD_list, List.length_map]
  have l3 : lenD [.list ((stayM b rs).map eR)] = some (.int ((stayM b rs).length : Int)) := by rw [lenD_list, List.length_map]
  have d2 := down2 (n := (fillF b s rs).length) (m := (stayM b rs).length) (by omega) hle
  unfold f_kept
  rw [runD_eq]
  show ofS (g_kept [some (.d (eB b)), some (.d (.int (s : Int))), some (.d (.list (rs.map eR))), none, none, none, none, none]) = _
  unfold g_kept
  simp only [seqS_ap, dropS_ap, setS_ap, setO_ap, forS_ap, retS_ap, thenS_ap, frz_ap, disp_ap, cb_ap, toSeq_ap, op2_ap, negR_ap, callR_ap, asCons_ap, asNil_ap, rd_ap, rdB_ap, kst_ap, List.getElem?_cons_succ, List.getElem?_cons_zero, Res.bind_ok, Res.map_ok, List.length_cons, List.length_nil, Nat.zero_add, Nat.reduceAdd, Nat.zero_le, if_true, m_look_strength h s1 s3 sl, he, res_rt, res_ro, List.set_cons_succ, List.set_cons_zero, seqOf_list, Res.of_some, w1, hp, e4, l6, l3, intD_int, d2, w2, ofS_rt]
end
end DL

/-! Law k02: strengths and tests. -/
namespace K02
open PySem PySem.Spec PyProof.Rows L2 DL DM
theorem y_look_cover {B x : D} {c : Exc} (h : f_look_strength [B, x] = .ex c) {a0 : D} : f_look_cover [B, x, a0] = .ex c := by
  unfold f_look_cover
  rw [runD_eq]
  show ofS (g_look_cover [some (.d B), some (.d x), some (.d a0)]) = _
  unfold g_look_cover
  simp only [seqS_ap, dropS_ap, thenS_ap, retO_ap, retS_ap, ofB_ap, notT_ap, toTru_ap, callR_ap, callO_ap, asCons_ap, asNil_ap, rd_ap, kst_ap, List.getElem?_cons_succ, List.getElem?_cons_zero, Res.bind_ok, Res.bind_ex, Res.map_ok, Res.map_ex, List.length_cons, List.length_nil, Nat.zero_add, Nat.reduceAdd, if_true, res_rt, res_ex, own_ex, ofS_ex, h]
theorem y_look_small {B x : D} {c : Exc} (h : f_look_strength [B, x] = .ex c) : f_look_small [B, x] = .ex c := by
  unfold f_look_small
  rw [runD_eq]
  show ofS (g_look_small [some (.d B), some (.d x)]) = _
  unfold g_look_small
  simp only [seqS_ap, dropS_ap, thenS_ap, retO_ap, retS_ap, ofB_ap, notT_ap, toTru_ap, callR_ap, callO_ap, asCons_ap, asNil_ap, rd_ap, kst_ap, List.getElem?_cons_succ, List.getElem?_cons_zero, Res.bind_ok, Res.bind_ex, Res.map_ok, Res.map_ex, List.length_cons, List.length_nil, Nat.zero_add, Nat.reduceAdd, if_true, res_rt, res_ex, own_ex, ofS_ex, h]
theorem y_look_results {B x : D} {c : Exc} (h : f_look_strength [B, x] = .ex c) {a0 a1 : D} : f_look_results [B, x, a0, a1] = .ex c := by
  unfold f_look_results
  rw [runD_eq]
  show ofS (g_look_results [some (.d B), some (.d x), some (.d a0), some (.d a1), none]) = _
  unfold g_look_results
  simp only [seqS_ap, dropS_ap, thenS_ap, retO_ap, retS_ap, ofB_ap, notT_ap, toTru_ap, callR_ap, callO_ap, asCons_ap, asNil_ap, rd_ap, kst_ap, List.getElem?_cons_succ, List.getElem?_cons_zero, Res.bind_ok, Res.bind_ex, Res.map_ok, Res.map_ex, List.length_cons, List.length_nil, Nat.zero_add, Nat.reduceAdd, if_true, res_rt, res_ex, own_ex, ofS_ex, h]
theorem y_all_meetings {B x : D} {c : Exc} (h : f_look_strength [B, x] = .ex c) : f_all_meetings [B, x] = .ex c := by
  unfold f_all_meetings
  rw [runD_eq]
  show ofS (g_all_meetings [some (.d B), some (.d x)]) = _
  unfold g_all_meetings
  simp only [seqS_ap, dropS_ap, thenS_ap, retO_ap, retS_ap, ofB_ap, notT_ap, toTru_ap, callR_ap, callO_ap, asCons_ap, asNil_ap, rd_ap, kst_ap, List.getElem?_cons_succ, List.getElem?_cons_zero, Res.bind_ok, Res.bind_ex, Res.map_ok, Res.map_ex, List.length_cons, List.length_nil, Nat.zero_add, Nat.reduceAdd, if_true, res_rt, res_ex, own_ex, ofS_ex, h]
theorem y_possible {B x : D} {c : Exc} (h : f_look_strength [B, x] = .ex c) : f_possible [B, x] = .ex c := by
  unfold f_possible
  rw [runD_eq]
  show ofS (g_possible [some (.d B), some (.d x)]) = _
  unfold g_possible
  simp only [seqS_ap, dropS_ap, thenS_ap, retO_ap, retS_ap, ofB_ap, notT_ap, toTru_ap, callR_ap, callO_ap, asCons_ap, asNil_ap, rd_ap, kst_ap, List.getElem?_cons_succ, List.getElem?_cons_zero, Res.bind_ok, Res.bind_ex, Res.map_ok, Res.map_ex, List.length_cons, List.length_nil, Nat.zero_add, Nat.reduceAdd, if_true, res_rt, res_ex, own_ex, ofS_ex, h]
theorem y_impossible {B x : D} {c : Exc} (h : f_look_strength [B, x] = .ex c) : f_impossible [B, x] = .ex c := by
  unfold f_impossible
  rw [runD_eq]
  show ofS (g_impossible [some (.d B), some (.d x), none, none]) = _
  unfold g_impossible
  simp only [seqS_ap, dropS_ap, thenS_ap, retO_ap, retS_ap, ofB_ap, notT_ap, toTru_ap, callR_ap, callO_ap, asCons_ap, asNil_ap, rd_ap, kst_ap, List.getElem?_cons_succ, List.getElem?_cons_zero, Res.bind_ok, Res.bind_ex, Res.map_ok, Res.map_ex, List.length_cons, List.length_nil, Nat.zero_add, Nat.reduceAdd, if_true, res_rt, res_ex, own_ex, ofS_ex, h]
theorem y_missing {B x : D} {c : Exc} (h : f_look_strength [B, x] = .ex c) {a0 : D} : f_missing [B, x, a0] = .ex c := by
  unfold f_missing
  rw [runD_eq]
  show ofS (g_missing [some (.d B), some (.d x), some (.d a0)]) = _
  unfold g_missing
  simp only [seqS_ap, dropS_ap, thenS_ap, retO_ap, retS_ap, ofB_ap, notT_ap, toTru_ap, callR_ap, callO_ap, asCons_ap, asNil_ap, rd_ap, kst_ap, List.getElem?_cons_succ, List.getElem?_cons_zero, Res.bind_ok, Res.bind_ex, Res.map_ok, Res.map_ex, List.length_cons, List.length_nil, Nat.zero_add, Nat.reduceAdd, if_true, res_rt, res_ex, own_ex, ofS_ex, y_look_cover h]
theorem y_needless {B x : D} {c : Exc} (h : f_look_strength [B, x] = .ex c) {a0 : D} : f_needless [B, x, a0] = .ex c := by
  unfold f_needless
  rw [runD_eq]
  show ofS (g_needless [some (.d B), some (.d x), some (.d a0), none, none, none]) = _
  unfold g_needless
  simp only [seqS_ap, dropS_ap, thenS_ap, retO_ap, retS_ap, ofB_ap, notT_ap, toTru_ap, callR_ap, callO_ap, asCons_ap, asNil_ap, rd_ap, kst_ap, List.getElem?_cons_succ, List.getElem?_cons_zero, Res.bind_ok, Res.bind_ex, Res.map_ok, Res.map_ex, List.length_cons, List.length_nil, Nat.zero_add, Nat.reduceAdd, if_true, res_rt, res_ex, own_ex, ofS_ex, y_look_cover h]
theorem y_trimmed {B x : D} {c : Exc} (h : f_look_strength [B, x] = .ex c) {a0 : D} : f_trimmed [B, x, a0] = .ex c := by
  unfold f_trimmed
  rw [runD_eq]
  show ofS (g_trimmed [some (.d B), some (.d x), some (.d a0)]) = _
  unfold g_trimmed
  simp only [seqS_ap, dropS_ap, thenS_ap, retO_ap, retS_ap, ofB_ap, notT_ap, toTru_ap, callR_ap, callO_ap, asCons_ap, asNil_ap, rd_ap, kst_ap, List.getElem?_cons_succ, List.getElem?_cons_zero, Res.bind_ok, Res.bind_ex, Res.map_ok, Res.map_ex, List.length_cons, List.length_nil, Nat.zero_add, Nat.reduceAdd, if_true, res_rt, res_ex, own_ex, ofS_ex, y_look_cover h]
theorem y_in_order {B x : D} {c : Exc} (h : f_look_strength [B, x] = .ex c) {a0 : D} : f_in_order [B, x, a0] = .ex c := by
  unfold f_in_order
  rw [runD_eq]
  show ofS (g_in_order [some (.d B), some (.d x), some (.d a0), none, none, none, none, none]) = _
  unfold g_in_order
  simp only [seqS_ap, dropS_ap, thenS_ap, retO_ap, retS_ap, ofB_ap, notT_ap, toTru_ap, callR_ap, callO_ap, asCons_ap, asNil_ap, rd_ap, kst_ap, List.getElem?_cons_succ, List.getElem?_cons_zero, Res.bind_ok, Res.bind_ex, Res.map_ok, Res.map_ex, List.length_cons, List.length_nil, Nat.zero_add, Nat.reduceAdd, if_true, res_rt, res_ex, own_ex, ofS_ex, y_look_cover h]
theorem y_built {B x : D} {c : Exc} (h : f_look_strength [B, x] = .ex c) : f_built [B, x] = .ex c := by
  unfold f_built
  rw [runD_eq]
  show ofS (g_built [some (.d B), some (.d x), none]) = _
  unfold g_built
  simp only [seqS_ap, dropS_ap, thenS_ap, retO_ap, retS_ap, ofB_ap, notT_ap, toTru_ap, callR_ap, callO_ap, asCons_ap, asNil_ap, rd_ap, kst_ap, List.getElem?_cons_succ, List.getElem?_cons_zero, Res.bind_ok, Res.bind_ex, Res.map_ok, Res.map_ex, List.length_cons, List.length_nil, Nat.zero_add, Nat.reduceAdd, if_true, res_rt, res_ex, own_ex, ofS_ex, h]
theorem y_fewest {B x : D} {c : Exc} (h : f_look_strength [B, x] = .ex c) : f_fewest [B, x] = .ex c := by
  unfold f_fewest
  rw [runD_eq]
  show ofS (g_fewest [some (.d B), some (.d x), none, none, none]) = _
  unfold g_fewest
  simp only [seqS_ap, dropS_ap, thenS_ap, retO_ap, retS_ap, ofB_ap, notT_ap, toTru_ap, callR_ap, callO_ap, asCons_ap, asNil_ap, rd_ap, kst_ap, List.getElem?_cons_succ, List.getElem?_cons_zero, Res.bind_ok, Res.bind_ex, Res.map_ok, Res.map_ex, List.length_cons, List.length_nil, Nat.zero_add, Nat.reduceAdd, if_true, res_rt, res_ex, own_ex, ofS_ex, y_look_small h]
theorem y_apart {B x : D} {c : Exc} (h : f_look_strength [B, x] = .ex c) : f_apart [B, x] = .ex c := by
  unfold f_apart
  rw [runD_eq]
  show ofS (g_apart [some (.d B), some (.d x)]) = _
  unfold g_apart
  simp only [seqS_ap, dropS_ap, thenS_ap, retO_ap, retS_ap, ofB_ap, notT_ap, toTru_ap, callR_ap, callO_ap, asCons_ap, asNil_ap, rd_ap, kst_ap, List.getElem?_cons_succ, List.getElem?_cons_zero, Res.bind_ok, Res.bind_ex, Res.map_ok, Res.map_ex, List.length_cons, List.length_nil, Nat.zero_add, Nat.reduceAdd, if_true, res_rt, res_ex, own_ex, ofS_ex, y_look_small h]
theorem y_paper {B x : D} {c : Exc} (h : f_look_strength [B, x] = .ex c) {a0 : D} : f_paper [B, x, a0] = .ex c := by
  unfold f_paper
  rw [runD_eq]
  show ofS (g_paper [some (.d B), some (.d x), some (.d a0), none, none]) = _
  unfold g_paper
  simp only [seqS_ap, dropS_ap, thenS_ap, retO_ap, retS_ap, ofB_ap, notT_ap, toTru_ap, callR_ap, callO_ap, asCons_ap, asNil_ap, rd_ap, kst_ap, List.getElem?_cons_succ, List.getElem?_cons_zero, Res.bind_ok, Res.bind_ex, Res.map_ok, Res.map_ex, List.length_cons, List.length_nil, Nat.zero_add, Nat.reduceAdd, if_true, res_rt, res_ex, own_ex, ofS_ex, y_look_small h]
theorem y_is_paper {B x : D} {c : Exc} (h : f_look_strength [B, x] = .ex c) {a0 a1 : D} : f_is_paper [B, x, a0, a1] = .ex c := by
  unfold f_is_paper
  rw [runD_eq]
  show ofS (g_is_paper [some (.d B), some (.d x), some (.d a0), some (.d a1)]) = _
  unfold g_is_paper
  simp only [seqS_ap, dropS_ap, thenS_ap, retO_ap, retS_ap, ofB_ap, notT_ap, toTru_ap, callR_ap, callO_ap, asCons_ap, asNil_ap, rd_ap, kst_ap, List.getElem?_cons_succ, List.getElem?_cons_zero, Res.bind_ok, Res.bind_ex, Res.map_ok, Res.map_ex, List.length_cons, List.length_nil, Nat.zero_add, Nat.reduceAdd, if_true, res_rt, res_ex, own_ex, ofS_ex, h]
theorem y_kept {B x : D} {c : Exc} (h : f_look_strength [B, x] = .ex c) {a0 : D} : f_kept [B, x, a0] = .ex c := by
  unfold f_kept
  rw [runD_eq]
  show ofS (g_kept [some (.d B), some (.d x), some (.d a0), none, none, none, none, none]) = _
  unfold g_kept
  simp only [seqS_ap, dropS_ap, thenS_ap, retO_ap, retS_ap, ofB_ap, notT_ap, toTru_ap, callR_ap, callO_ap, asCons_ap, asNil_ap, rd_ap, kst_ap, List.getElem?_cons_succ, List.getElem?_cons_zero, Res.bind_ok, Res.bind_ex, Res.map_ok, Res.map_ex, List.length_cons, List.length_nil, Nat.zero_add, Nat.reduceAdd, if_true, res_rt, res_ex, own_ex, ofS_ex, h]
theorem y_suspects {B x : D} {c : Exc} (h : f_look_strength [B, x] = .ex c) {a0 a1 : D} : f_suspects [B, x, a0, a1] = .ex c := by
  unfold f_suspects
  rw [runD_eq]
  show ofS (g_suspects [some (.d B), some (.d x), some (.d a0), some (.d a1)]) = _
  unfold g_suspects
  simp only [seqS_ap, dropS_ap, thenS_ap, retO_ap, retS_ap, ofB_ap, notT_ap, toTru_ap, callR_ap, callO_ap, asCons_ap, asNil_ap, rd_ap, kst_ap, List.getElem?_cons_succ, List.getElem?_cons_zero, Res.bind_ok, Res.bind_ex, Res.map_ok, Res.map_ex, List.length_cons, List.length_nil, Nat.zero_add, Nat.reduceAdd, if_true, res_rt, res_ex, own_ex, ofS_ex, y_look_results h]
theorem y_blurred {B x : D} {c : Exc} (h : f_look_strength [B, x] = .ex c) {a0 : D} : f_blurred [B, x, a0] = .ex c := by
  unfold f_blurred
  rw [runD_eq]
  show ofS (g_blurred [some (.d B), some (.d x), some (.d a0), none, none, none]) = _
  unfold g_blurred
  simp only [seqS_ap, dropS_ap, thenS_ap, retO_ap, retS_ap, ofB_ap, notT_ap, toTru_ap, callR_ap, callO_ap, asCons_ap, asNil_ap, rd_ap, kst_ap, List.getElem?_cons_succ, List.getElem?_cons_zero, Res.bind_ok, Res.bind_ex, Res.map_ok, Res.map_ex, List.length_cons, List.length_nil, Nat.zero_add, Nat.reduceAdd, if_true, res_rt, res_ex, own_ex, ofS_ex, h]
theorem z_look_cover {B x : D} {c : Exc} (hs : f_look_strength [B, .int 1] = .rt .none) (h : f_look_tests [B, x] = .ex c) : f_look_cover [B, .int 1, x] = .ex c := by
  unfold f_look_cover
  rw [runD_eq]
  show ofS (g_look_cover [some (.d B), some (.d (.int 1)), some (.d x)]) = _
  unfold g_look_cover
  simp only [seqS_ap, dropS_ap, thenS_ap, retO_ap, retS_ap, ofB_ap, notT_ap, toTru_ap, callR_ap, callO_ap, asCons_ap, asNil_ap, rd_ap, kst_ap, List.getElem?_cons_succ, List.getElem?_cons_zero, Res.bind_ok, Res.bind_ex, Res.map_ok, Res.map_ex, List.length_cons, List.length_nil, Nat.zero_add, Nat.reduceAdd, if_true, res_rt, res_ex, own_ex, ofS_ex, hs, h]
theorem z_look_results {B x : D} {c : Exc} (hs : f_look_strength [B, .int 1] = .rt .none) (h : f_look_tests [B, x] = .ex c) {a0 : D} : f_look_results [B, .int 1, x, a0] = .ex c := by
  unfold f_look_results
  rw [runD_eq]
  show ofS (g_look_results [some (.d B), some (.d (.int 1)), some (.d x), some (.d a0), none]) = _
  unfold g_look_results
  simp only [seqS_ap, dropS_ap, thenS_ap, retO_ap, retS_ap, ofB_ap, notT_ap, toTru_ap, callR_ap, callO_ap, asCons_ap, asNil_ap, rd_ap, kst_ap, List.getElem?_cons_succ, List.getElem?_cons_zero, Res.bind_ok, Res.bind_ex, Res.map_ok, Res.map_ex, List.length_cons, List.length_nil, Nat.zero_add, Nat.reduceAdd, if_true, res_rt, res_ex, own_ex, ofS_ex, hs, h]
theorem z_missing {B x : D} {c : Exc} (hs : f_look_strength [B, .int 1] = .rt .none) (h : f_look_tests [B, x] = .ex c) : f_missing [B, .int 1, x] = .ex c := by
  unfold f_missing
  rw [runD_eq]
  show ofS (g_missing [some (.d B), some (.d (.int 1)), some (.d x)]) = _
  unfold g_missing
  simp only [seqS_ap, dropS_ap, thenS_ap, retO_ap, retS_ap, ofB_ap, notT_ap, toTru_ap, callR_ap, callO_ap, asCons_ap, asNil_ap, rd_ap, kst_ap, List.getElem?_cons_succ, List.getElem?_cons_zero, Res.bind_ok, Res.bind_ex, Res.map_ok, Res.map_ex, List.length_cons, List.length_nil, Nat.zero_add, Nat.reduceAdd, if_true, res_rt, res_ex, own_ex, ofS_ex, z_look_cover hs h]
theorem z_is_cover {B x : D} {c : Exc} (hs : f_look_strength [B, .int 1] = .rt .none) (h : f_look_tests [B, x] = .ex c) : f_is_cover [B, .int 1, x] = .ex c := by
  unfold f_is_cover
  rw [runD_eq]
  show ofS (g_is_cover [some (.d B), some (.d (.int 1)), some (.d x)]) = _
  unfold g_is_cover
  simp only [seqS_ap, dropS_ap, thenS_ap, retO_ap, retS_ap, ofB_ap, notT_ap, toTru_ap, callR_ap, callO_ap, asCons_ap, asNil_ap, rd_ap, kst_ap, List.getElem?_cons_succ, List.getElem?_cons_zero, Res.bind_ok, Res.bind_ex, Res.map_ok, Res.map_ex, List.length_cons, List.length_nil, Nat.zero_add, Nat.reduceAdd, if_true, res_rt, res_ex, own_ex, ofS_ex, z_missing hs h]
theorem z_needless {B x : D} {c : Exc} (hs : f_look_strength [B, .int 1] = .rt .none) (h : f_look_tests [B, x] = .ex c) : f_needless [B, .int 1, x] = .ex c := by
  unfold f_needless
  rw [runD_eq]
  show ofS (g_needless [some (.d B), some (.d (.int 1)), some (.d x), none, none, none]) = _
  unfold g_needless
  simp only [seqS_ap, dropS_ap, thenS_ap, retO_ap, retS_ap, ofB_ap, notT_ap, toTru_ap, callR_ap, callO_ap, asCons_ap, asNil_ap, rd_ap, kst_ap, List.getElem?_cons_succ, List.getElem?_cons_zero, Res.bind_ok, Res.bind_ex, Res.map_ok, Res.map_ex, List.length_cons, List.length_nil, Nat.zero_add, Nat.reduceAdd, if_true, res_rt, res_ex, own_ex, ofS_ex, z_look_cover hs h]
theorem z_trimmed {B x : D} {c : Exc} (hs : f_look_strength [B, .int 1] = .rt .none) (h : f_look_tests [B, x] = .ex c) : f_trimmed [B, .int 1, x] = .ex c := by
  unfold f_trimmed
  rw [runD_eq]
  show ofS (g_trimmed [some (.d B), some (.d (.int 1)), some (.d x)]) = _
  unfold g_trimmed
  simp only [seqS_ap, dropS_ap, thenS_ap, retO_ap, retS_ap, ofB_ap, notT_ap, toTru_ap, callR_ap, callO_ap, asCons_ap, asNil_ap, rd_ap, kst_ap, List.getElem?_cons_succ, List.getElem?_cons_zero, Res.bind_ok, Res.bind_ex, Res.map_ok, Res.map_ex, List.length_cons, List.length_nil, Nat.zero_add, Nat.reduceAdd, if_true, res_rt, res_ex, own_ex, ofS_ex, z_look_cover hs h]
theorem z_in_order {B x : D} {c : Exc} (hs : f_look_strength [B, .int 1] = .rt .none) (h : f_look_tests [B, x] = .ex c) : f_in_order [B, .int 1, x] = .ex c := by
  unfold f_in_order
  rw [runD_eq]
  show ofS (g_in_order [some (.d B), some (.d (.int 1)), some (.d x), none, none, none, none, none]) = _
  unfold g_in_order
  simp only [seqS_ap, dropS_ap, thenS_ap, retO_ap, retS_ap, ofB_ap, notT_ap, toTru_ap, callR_ap, callO_ap, asCons_ap, asNil_ap, rd_ap, kst_ap, List.getElem?_cons_succ, List.getElem?_cons_zero, Res.bind_ok, Res.bind_ex, Res.map_ok, Res.map_ex, List.length_cons, List.length_nil, Nat.zero_add, Nat.reduceAdd, if_true, res_rt, res_ex, own_ex, ofS_ex, z_look_cover hs h]
theorem z_suspects {B x : D} {c : Exc} (hs : f_look_strength [B, .int 1] = .rt .none) (h : f_look_tests [B, x] = .ex c) {a0 : D} : f_suspects [B, .int 1, x, a0] = .ex c := by
  unfold f_suspects
  rw [runD_eq]
  show ofS (g_suspects [some (.d B), some (.d (.int 1)), some (.d x), some (.d a0)]) = _
  unfold g_suspects
  simp only [seqS_ap, dropS_ap, thenS_ap, retO_ap, retS_ap, ofB_ap, notT_ap, toTru_ap, callR_ap, callO_ap, asCons_ap, asNil_ap, rd_ap, kst_ap, List.getElem?_cons_succ, List.getElem?_cons_zero, Res.bind_ok, Res.bind_ex, Res.map_ok, Res.map_ex, List.length_cons, List.length_nil, Nat.zero_add, Nat.reduceAdd, if_true, res_rt, res_ex, own_ex, ofS_ex, z_look_results hs h]
theorem z_blurred {B x : D} {c : Exc} (hs : f_look_strength [B, .int 1] = .rt .none) (h : f_look_tests [B, x] = .ex c) : f_blurred [B, .int 1, x] = .ex c := by
  unfold f_blurred
  rw [runD_eq]
  show ofS (g_blurred [some (.d B), some (.d (.int 1)), some (.d x), none, none, none]) = _
  unfold g_blurred
  simp only [seqS_ap, dropS_ap, thenS_ap, retO_ap, retS_ap, ofB_ap, notT_ap, toTru_ap, callR_ap, callO_ap, asCons_ap, asNil_ap, rd_ap, kst_ap, List.getElem?_cons_succ, List.getElem?_cons_zero, Res.bind_ok, Res.bind_ex, Res.map_ok, Res.map_ex, List.length_cons, List.length_nil, Nat.zero_add, Nat.reduceAdd, if_true, res_rt, res_ex, own_ex, ofS_ex, hs, h]
theorem z_most_looked {B x : D} {c : Exc} (hs : f_look_strength [B, .int 1] = .rt .none) (h : f_look_tests [B, x] = .ex c) : f_most_looked [B, .int 1, x] = .ex c := by
  unfold f_most_looked
  rw [runD_eq]
  show ofS (g_most_looked [some (.d B), some (.d (.int 1)), some (.d x), none, none, none, none]) = _
  unfold g_most_looked
  simp only [seqS_ap, dropS_ap, thenS_ap, retO_ap, retS_ap, ofB_ap, notT_ap, toTru_ap, callR_ap, callO_ap, asCons_ap, asNil_ap, rd_ap, kst_ap, List.getElem?_cons_succ, List.getElem?_cons_zero, Res.bind_ok, Res.bind_ex, Res.map_ok, Res.map_ex, List.length_cons, List.length_nil, Nat.zero_add, Nat.reduceAdd, if_true, res_rt, res_ex, own_ex, ofS_ex, hs, h]
theorem by_s {B x : D} {c : Exc} (h : f_look_strength [B, x] = .ex c) : ∀ i : Nat, i < 8 → f_l_by_strength [.int (i : Int), B, x] = .ex c := fun i hi => by
  unfold f_l_by_strength
  rw [runD_eq]
  exact match i, hi with
  | 0, _ => by
    show ofS (g_l_by_strength [some (.d (.int 0)), some (.d B), some (.d x)]) = _
    unfold g_l_by_strength
    simp only [seqS_ap, ifS_ap, retS_ap, retO_ap, thenS_ap, toB_ap, op2_ap, callR_ap, callO_ap, asCons_ap, asNil_ap, rd_ap, rdB_ap, kst_ap, List.getElem?_cons_succ, List.getElem?_cons_zero, Res.bind_ok, Res.map_ok, List.length_cons, List.length_nil, Nat.zero_add, Nat.reduceAdd, if_true, eqD_int, Res.of_some, boolD_bool, decide_true, y_all_meetings h, res_ex, own_ex, Bool.false_eq_true, if_false, ofS_ex]
  | 1, _ => by
    show ofS (g_l_by_strength [some (.d (.int 1)), some (.d B), some (.d x)]) = _
    unfold g_l_by_strength
    simp only [seqS_ap, ifS_ap, retS_ap, retO_ap, thenS_ap, toB_ap, op2_ap, callR_ap, callO_ap, asCons_ap, asNil_ap, rd_ap, rdB_ap, kst_ap, List.getElem?_cons_succ, List.getElem?_cons_zero, Res.bind_ok, Res.map_ok, List.length_cons, List.length_nil, Nat.zero_add, Nat.reduceAdd, if_true, eqD_int, Res.of_some, boolD_bool, decide_true, y_possible h, res_ex, own_ex, Bool.false_eq_true, if_false, ofS_ex, show decide ((1 : Int) = 0) = false from rfl]
  | 2, _ => by
    show ofS (g_l_by_strength [some (.d (.int 2)), some (.d B), some (.d x)]) = _
    unfold g_l_by_strength
    simp only [seqS_ap, ifS_ap, retS_ap, retO_ap, thenS_ap, toB_ap, op2_ap, callR_ap, callO_ap, asCons_ap, asNil_ap, rd_ap, rdB_ap, kst_ap, List.getElem?_cons_succ, List.getElem?_cons_zero, Res.bind_ok, Res.map_ok, List.length_cons, List.length_nil, Nat.zero_add, Nat.reduceAdd, if_true, eqD_int, Res.of_some, boolD_bool, decide_true, y_impossible h, res_ex, own_ex, Bool.false_eq_true, if_false, ofS_ex, show decide ((2 : Int) = 0) = false from rfl, show decide ((2 : Int) = 1) = false from rfl]
  | 3, _ => by
    show ofS (g_l_by_strength [some (.d (.int 3)), some (.d B), some (.d x)]) = _
    unfold g_l_by_strength
    simp only [seqS_ap, ifS_ap, retS_ap, retO_ap, thenS_ap, toB_ap, op2_ap, callR_ap, callO_ap, asCons_ap, asNil_ap, rd_ap, rdB_ap, kst_ap, List.getElem?_cons_succ, List.getElem?_cons_zero, Res.bind_ok, Res.map_ok, List.length_cons, List.length_nil, Nat.zero_add, Nat.reduceAdd, if_true, eqD_int, Res.of_some, boolD_bool, decide_true, y_missing h, res_ex, own_ex, Bool.false_eq_true, if_false, ofS_ex, show decide ((3 : Int) = 0) = false from rfl, show decide ((3 : Int) = 1) = false from rfl, show decide ((3 : Int) = 2) = false from rfl]
  | 4, _ => by
    show ofS (g_l_by_strength [some (.d (.int 4)), some (.d B), some (.d x)]) = _
    unfold g_l_by_strength
    simp only [seqS_ap, ifS_ap, retS_ap, retO_ap, thenS_ap, toB_ap, op2_ap, callR_ap, callO_ap, asCons_ap, asNil_ap, rd_ap, rdB_ap, kst_ap, List.getElem?_cons_succ, List.getElem?_cons_zero, Res.bind_ok, Res.map_ok, List.length_cons, List.length_nil, Nat.zero_add, Nat.reduceAdd, if_true, eqD_int, Res.of_some, boolD_bool, decide_true, y_needless h, res_ex, own_ex, Bool.false_eq_true, if_false, ofS_ex, show decide ((4 : Int) = 0) = false from rfl, show decide ((4 : Int) = 1) = false from rfl, show decide ((4 : Int) = 2) = false from rfl, show decide ((4 : Int) = 3) = false from rfl]
  | 5, _ => by
    show ofS (g_l_by_strength [some (.d (.int 5)), some (.d B), some (.d x)]) = _
    unfold g_l_by_strength
    simp only [seqS_ap, ifS_ap, retS_ap, retO_ap, thenS_ap, toB_ap, op2_ap, callR_ap, callO_ap, asCons_ap, asNil_ap, rd_ap, rdB_ap, kst_ap, List.getElem?_cons_succ, List.getElem?_cons_zero, Res.bind_ok, Res.map_ok, List.length_cons, List.length_nil, Nat.zero_add, Nat.reduceAdd, if_true, eqD_int, Res.of_some, boolD_bool, decide_true, y_trimmed h, res_ex, own_ex, Bool.false_eq_true, if_false, ofS_ex, show decide ((5 : Int) = 0) = false from rfl, show decide ((5 : Int) = 1) = false from rfl, show decide ((5 : Int) = 2) = false from rfl, show decide ((5 : Int) = 3) = false from rfl, show decide ((5 : Int) = 4) = false from rfl]
  | 6, _ => by
    show ofS (g_l_by_strength [some (.d (.int 6)), some (.d B), some (.d x)]) = _
    unfold g_l_by_strength
    simp only [seqS_ap, ifS_ap, retS_ap, retO_ap, thenS_ap, toB_ap, op2_ap, callR_ap, callO_ap, asCons_ap, asNil_ap, rd_ap, rdB_ap, kst_ap, List.getElem?_cons_succ, List.getElem?_cons_zero, Res.bind_ok, Res.map_ok, List.length_cons, List.length_nil, Nat.zero_add, Nat.reduceAdd, if_true, eqD_int, Res.of_some, boolD_bool, decide_true, y_in_order h, res_ex, own_ex, Bool.false_eq_true, if_false, ofS_ex, show decide ((6 : Int) = 0) = false from rfl, show decide ((6 : Int) = 1) = false from rfl, show decide ((6 : Int) = 2) = false from rfl, show decide ((6 : Int) = 3) = false from rfl, show decide ((6 : Int) = 4) = false from rfl, show decide ((6 : Int) = 5) = false from rfl]
  | 7, _ => by
    show ofS (g_l_by_strength [some (.d (.int 7)), some (.d B), some (.d x)]) = _
    unfold g_l_by_strength
    simp only [seqS_ap, ifS_ap, retS_ap, retO_ap, thenS_ap, toB_ap, op2_ap, callR_ap, callO_ap, asCons_ap, asNil_ap, rd_ap, rdB_ap, kst_ap, List.getElem?_cons_succ, List.getElem?_cons_zero, Res.bind_ok, Res.map_ok, List.length_cons, List.length_nil, Nat.zero_add, Nat.reduceAdd, if_true, eqD_int, Res.of_some, boolD_bool, decide_true, y_built h, res_ex, own_ex, Bool.false_eq_true, if_false, ofS_ex, show decide ((7 : Int) = 0) = false from rfl, show decide ((7 : Int) = 1) = false from rfl, show decide ((7 : Int) = 2) = false from rfl, show decide ((7 : Int) = 3) = false from rfl, show decide ((7 : Int) = 4) = false from rfl, show decide ((7 : Int) = 5) = false from rfl, show decide ((7 : Int) = 6) = false from rfl]
theorem more {B x : D} {c : Exc} (h : f_look_strength [B, x] = .ex c) : ∀ i : Nat, i < 7 → f_l_more_02 [.int (i : Int), B, x] = .ex c := fun i hi => by
  unfold f_l_more_02
  rw [runD_eq]
  exact match i, hi with
  | 0, _ => by
    show ofS (g_l_more_02 [some (.d (.int 0)), some (.d B), some (.d x)]) = _
    unfold g_l_more_02
    simp only [seqS_ap, ifS_ap, retS_ap, retO_ap, thenS_ap, toB_ap, op2_ap, callR_ap, callO_ap, asCons_ap, asNil_ap, rd_ap, rdB_ap, kst_ap, List.getElem?_cons_succ, List.getElem?_cons_zero, Res.bind_ok, Res.map_ok, List.length_cons, List.length_nil, Nat.zero_add, Nat.reduceAdd, if_true, eqD_int, Res.of_some, boolD_bool, decide_true, y_fewest h, res_ex, own_ex, Bool.false_eq_true, if_false, ofS_ex]
  | 1, _ => by
    show ofS (g_l_more_02 [some (.d (.int 1)), some (.d B), some (.d x)]) = _
    unfold g_l_more_02
    simp only [seqS_ap, ifS_ap, retS_ap, retO_ap, thenS_ap, toB_ap, op2_ap, callR_ap, callO_ap, asCons_ap, asNil_ap, rd_ap, rdB_ap, kst_ap, List.getElem?_cons_succ, List.getElem?_cons_zero, Res.bind_ok, Res.map_ok, List.length_cons, List.length_nil, Nat.zero_add, Nat.reduceAdd, if_true, eqD_int, Res.of_some, boolD_bool, decide_true, y_apart h, res_ex, own_ex, Bool.false_eq_true, if_false, ofS_ex, show decide ((1 : Int) = 0) = false from rfl]
  | 2, _ => by
    show ofS (g_l_more_02 [some (.d (.int 2)), some (.d B), some (.d x)]) = _
    unfold g_l_more_02
    simp only [seqS_ap, ifS_ap, retS_ap, retO_ap, thenS_ap, toB_ap, op2_ap, callR_ap, callO_ap, asCons_ap, asNil_ap, rd_ap, rdB_ap, kst_ap, List.getElem?_cons_succ, List.getElem?_cons_zero, Res.bind_ok, Res.map_ok, List.length_cons, List.length_nil, Nat.zero_add, Nat.reduceAdd, if_true, eqD_int, Res.of_some, boolD_bool, decide_true, y_paper h, res_ex, own_ex, Bool.false_eq_true, if_false, ofS_ex, show decide ((2 : Int) = 0) = false from rfl, show decide ((2 : Int) = 1) = false from rfl]
  | 3, _ => by
    show ofS (g_l_more_02 [some (.d (.int 3)), some (.d B), some (.d x)]) = _
    unfold g_l_more_02
    simp only [seqS_ap, ifS_ap, retS_ap, retO_ap, thenS_ap, toB_ap, op2_ap, callR_ap, callO_ap, asCons_ap, asNil_ap, rd_ap, rdB_ap, kst_ap, List.getElem?_cons_succ, List.getElem?_cons_zero, Res.bind_ok, Res.map_ok, List.length_cons, List.length_nil, Nat.zero_add, Nat.reduceAdd, if_true, eqD_int, Res.of_some, boolD_bool, decide_true, y_is_paper h, res_ex, own_ex, Bool.false_eq_true, if_false, ofS_ex, show decide ((3 : Int) = 0) = false from rfl, show decide ((3 : Int) = 1) = false from rfl, show decide ((3 : Int) = 2) = false from rfl]
  | 4, _ => by
    show ofS (g_l_more_02 [some (.d (.int 4)), some (.d B), some (.d x)]) = _
    unfold g_l_more_02
    simp only [seqS_ap, ifS_ap, retS_ap, retO_ap, thenS_ap, toB_ap, op2_ap, callR_ap, callO_ap, asCons_ap, asNil_ap, rd_ap, rdB_ap, kst_ap, List.getElem?_cons_succ, List.getElem?_cons_zero, Res.bind_ok, Res.map_ok, List.length_cons, List.length_nil, Nat.zero_add, Nat.reduceAdd, if_true, eqD_int, Res.of_some, boolD_bool, decide_true, y_kept h, res_ex, own_ex, Bool.false_eq_true, if_false, ofS_ex, show decide ((4 : Int) = 0) = false from rfl, show decide ((4 : Int) = 1) = false from rfl, show decide ((4 : Int) = 2) = false from rfl, show decide ((4 : Int) = 3) = false from rfl]
  | 5, _ => by
    show ofS (g_l_more_02 [some (.d (.int 5)), some (.d B), some (.d x)]) = _
    unfold g_l_more_02
    simp only [seqS_ap, ifS_ap, retS_ap, retO_ap, thenS_ap, toB_ap, op2_ap, callR_ap, callO_ap, asCons_ap, asNil_ap, rd_ap, rdB_ap, kst_ap, List.getElem?_cons_succ, List.getElem?_cons_zero, Res.bind_ok, Res.map_ok, List.length_cons, List.length_nil, Nat.zero_add, Nat.reduceAdd, if_true, eqD_int, Res.of_some, boolD_bool, decide_true, y_suspects h, res_ex, own_ex, Bool.false_eq_true, if_false, ofS_ex, show decide ((5 : Int) = 0) = false from rfl, show decide ((5 : Int) = 1) = false from rfl, show decide ((5 : Int) = 2) = false from rfl, show decide ((5 : Int) = 3) = false from rfl, show decide ((5 : Int) = 4) = false from rfl]
  | 6, _ => by
    show ofS (g_l_more_02 [some (.d (.int 6)), some (.d B), some (.d x)]) = _
    unfold g_l_more_02
    simp only [seqS_ap, ifS_ap, retS_ap, retO_ap, thenS_ap, toB_ap, op2_ap, callR_ap, callO_ap, asCons_ap, asNil_ap, rd_ap, rdB_ap, kst_ap, List.getElem?_cons_succ, List.getElem?_cons_zero, Res.bind_ok, Res.map_ok, List.length_cons, List.length_nil, Nat.zero_add, Nat.reduceAdd, if_true, eqD_int, Res.of_some, boolD_bool, decide_true, y_blurred h, res_ex, own_ex, Bool.false_eq_true, if_false, ofS_ex, show decide ((6 : Int) = 0) = false from rfl, show decide ((6 : Int) = 1) = false from rfl, show decide ((6 : Int) = 2) = false from rfl, show decide ((6 : Int) = 3) = false from rfl, show decide ((6 : Int) = 4) = false from rfl, show decide ((6 : Int) = 5) = false from rfl]
theorem by_t {B x : D} {c : Exc} (hs : f_look_strength [B, .int 1] = .rt .none) (h : f_look_tests [B, x] = .ex c) : ∀ i : Nat, i < 8 → f_l_by_tests [.int (i : Int), B, x] = .ex c := fun i hi => by
  unfold f_l_by_tests
  rw [runD_eq]
  exact match i, hi with
  | 0, _ => by
    show ofS (g_l_by_tests [some (.d (.int 0)), some (.d B), some (.d x)]) = _
    unfold g_l_by_tests
    simp only [seqS_ap, ifS_ap, retS_ap, retO_ap, thenS_ap, toB_ap, op2_ap, callR_ap, callO_ap, asCons_ap, asNil_ap, rd_ap, rdB_ap, kst_ap, List.getElem?_cons_succ, List.getElem?_cons_zero, Res.bind_ok, Res.map_ok, List.length_cons, List.length_nil, Nat.zero_add, Nat.reduceAdd, if_true, eqD_int, Res.of_some, boolD_bool, decide_true, z_missing hs h, res_ex, own_ex, Bool.false_eq_true, if_false, ofS_ex]
  | 1, _ => by
    show ofS (g_l_by_tests [some (.d (.int 1)), some (.d B), some (.d x)]) = _
    unfold g_l_by_tests
    simp only [seqS_ap, ifS_ap, retS_ap, retO_ap, thenS_ap, toB_ap, op2_ap, callR_ap, callO_ap, asCons_ap, asNil_ap, rd_ap, rdB_ap, kst_ap, List.getElem?_cons_succ, List.getElem?_cons_zero, Res.bind_ok, Res.map_ok, List.length_cons, List.length_nil, Nat.zero_add, Nat.reduceAdd, if_true, eqD_int, Res.of_some, boolD_bool, decide_true, z_is_cover hs h, res_ex, own_ex, Bool.false_eq_true, if_false, ofS_ex, show decide ((1 : Int) = 0) = false from rfl]
  | 2, _ => by
    show ofS (g_l_by_tests [some (.d (.int 2)), some (.d B), some (.d x)]) = _
    unfold g_l_by_tests
    simp only [seqS_ap, ifS_ap, retS_ap, retO_ap, thenS_ap, toB_ap, op2_ap, callR_ap, callO_ap, asCons_ap, asNil_ap, rd_ap, rdB_ap, kst_ap, List.getElem?_cons_succ, List.getElem?_cons_zero, Res.bind_ok, Res.map_ok, List.length_cons, List.length_nil, Nat.zero_add, Nat.reduceAdd, if_true, eqD_int, Res.of_some, boolD_bool, decide_true, z_needless hs h, res_ex, own_ex, Bool.false_eq_true, if_false, ofS_ex, show decide ((2 : Int) = 0) = false from rfl, show decide ((2 : Int) = 1) = false from rfl]
  | 3, _ => by
    show ofS (g_l_by_tests [some (.d (.int 3)), some (.d B), some (.d x)]) = _
    unfold g_l_by_tests
    simp only [seqS_ap, ifS_ap, retS_ap, retO_ap, thenS_ap, toB_ap, op2_ap, callR_ap, callO_ap, asCons_ap, asNil_ap, rd_ap, rdB_ap, kst_ap, List.getElem?_cons_succ, List.getElem?_cons_zero, Res.bind_ok, Res.map_ok, List.length_cons, List.length_nil, Nat.zero_add, Nat.reduceAdd, if_true, eqD_int, Res.of_some, boolD_bool, decide_true, z_trimmed hs h, res_ex, own_ex, Bool.false_eq_true, if_false, ofS_ex, show decide ((3 : Int) = 0) = false from rfl, show decide ((3 : Int) = 1) = false from rfl, show decide ((3 : Int) = 2) = false from rfl]
  | 4, _ => by
    show ofS (g_l_by_tests [some (.d (.int 4)), some (.d B), some (.d x)]) = _
    unfold g_l_by_tests
    simp only [seqS_ap, ifS_ap, retS_ap, retO_ap, thenS_ap, toB_ap, op2_ap, callR_ap, callO_ap, asCons_ap, asNil_ap, rd_ap, rdB_ap, kst_ap, List.getElem?_cons_succ, List.getElem?_cons_zero, Res.bind_ok, Res.map_ok, List.length_cons, List.length_nil, Nat.zero_add, Nat.reduceAdd, if_true, eqD_int, Res.of_some, boolD_bool, decide_true, z_in_order hs h, res_ex, own_ex, Bool.false_eq_true, if_false, ofS_ex, show decide ((4 : Int) = 0) = false from rfl, show decide ((4 : Int) = 1) = false from rfl, show decide ((4 : Int) = 2) = false from rfl, show decide ((4 : Int) = 3) = false from rfl]
  | 5, _ => by
    show ofS (g_l_by_tests [some (.d (.int 5)), some (.d B), some (.d x)]) = _
    unfold g_l_by_tests
    simp only [seqS_ap, ifS_ap, retS_ap, retO_ap, thenS_ap, toB_ap, op2_ap, callR_ap, callO_ap, asCons_ap, asNil_ap, rd_ap, rdB_ap, kst_ap, List.getElem?_cons_succ, List.getElem?_cons_zero, Res.bind_ok, Res.map_ok, List.length_cons, List.length_nil, Nat.zero_add, Nat.reduceAdd, if_true, eqD_int, Res.of_some, boolD_bool, decide_true, z_suspects hs h, res_ex, own_ex, Bool.false_eq_true, if_false, ofS_ex, show decide ((5 : Int) = 0) = false from rfl, show decide ((5 : Int) = 1) = false from rfl, show decide ((5 : Int) = 2) = false from rfl, show decide ((5 : Int) = 3) = false from rfl, show decide ((5 : Int) = 4) = false from rfl]
  | 6, _ => by
    show ofS (g_l_by_tests [some (.d (.int 6)), some (.d B), some (.d x)]) = _
    unfold g_l_by_tests
    simp only [seqS_ap, ifS_ap, retS_ap, retO_ap, thenS_ap, toB_ap, op2_ap, callR_ap, callO_ap, asCons_ap, asNil_ap, rd_ap, rdB_ap, kst_ap, List.getElem?_cons_succ, List.getElem?_cons_zero, Res.bind_ok, Res.map_ok, List.length_cons, List.length_nil, Nat.zero_add, Nat.reduceAdd, if_true, eqD_int, Res.of_some, boolD_bool, decide_true, z_blurred hs h, res_ex, own_ex, Bool.false_eq_true, if_false, ofS_ex, show decide ((6 : Int) = 0) = false from rfl, show decide ((6 : Int) = 1) = false from rfl, show decide ((6 : Int) = 2) = false from rfl, show decide ((6 : Int) = 3) = false from rfl, show decide ((6 : Int) = 4) = false from rfl, show decide ((6 : Int) = 5) = false from rfl]
  | 7, _ => by
    show ofS (g_l_by_tests [some (.d (.int 7)), some (.d B), some (.d x)]) = _
    unfold g_l_by_tests
    simp only [seqS_ap, ifS_ap, retS_ap, retO_ap, thenS_ap, toB_ap, op2_ap, callR_ap, callO_ap, asCons_ap, asNil_ap, rd_ap, rdB_ap, kst_ap, List.getElem?_cons_succ, List.getElem?_cons_zero, Res.bind_ok, Res.map_ok, List.length_cons, List.length_nil, Nat.zero_add, Nat.reduceAdd, if_true, eqD_int, Res.of_some, boolD_bool, decide_true, z_most_looked hs h, res_ex, own_ex, Bool.false_eq_true, if_false, ofS_ex, show decide ((7 : Int) = 0) = false from rfl, show decide ((7 : Int) = 1) = false from rfl, show decide ((7 : Int) = 2) = false from rfl, show decide ((7 : Int) = 3) = false from rfl, show decide ((7 : Int) = 4) = false from rfl, show decide ((7 : Int) = 5) = false from rfl, show decide ((7 : Int) = 6) = false from rfl]
theorem told0 {B x : D} (h : f_look_strength [B, x] = .ex ⟨"BadStrength", none⟩) (i : Nat) (hi : i < 8) : f_l_told_02 [.int 0, .int (i : Int), B, x] = .ro [.bool true, .bool true] := by
  unfold f_l_told_02
  rw [runD_eq]
  show ofS (g_l_told_02 [some (.d (.int 0)), some (.d (.int (i : Int))), some (.d B), some (.d x), none]) = _
  unfold g_l_told_02 tryS
  simp only [seqS_ap, ifS_ap, dropS_ap, thenS_ap, toB_ap, op2_ap, callR_ap, asCons_ap, asNil_ap, rd_ap, rdB_ap, kst_ap, List.getElem?_cons_succ, List.getElem?_cons_zero, Res.bind_ok, Res.map_ok, List.length_cons, List.length_nil, Nat.zero_add, Nat.reduceAdd, if_true, eqD_int, Res.of_some, boolD_bool, decide_true, Bool.false_eq_true, if_false, by_s h i hi, res_ex]
  rfl
theorem told1 {B x : D} (h : f_look_strength [B, x] = .ex ⟨"BadStrength", none⟩) (i : Nat) (hi : i < 7) : f_l_told_02 [.int 1, .int (i : Int), B, x] = .ro [.bool true, .bool true] := by
  unfold f_l_told_02
  rw [runD_eq]
  show ofS (g_l_told_02 [some (.d (.int 1)), some (.d (.int (i : Int))), some (.d B), some (.d x), none]) = _
  unfold g_l_told_02 tryS
  simp only [seqS_ap, ifS_ap, dropS_ap, thenS_ap, toB_ap, op2_ap, callR_ap, asCons_ap, asNil_ap, rd_ap, rdB_ap, kst_ap, List.getElem?_cons_succ, List.getElem?_cons_zero, Res.bind_ok, Res.map_ok, List.length_cons, List.length_nil, Nat.zero_add, Nat.reduceAdd, if_true, eqD_int, Res.of_some, boolD_bool, decide_true, Bool.false_eq_true, if_false, more h i hi, show decide ((1 : Int) = 0) = false from rfl, res_ex]
  rfl
theorem told2 {B x : D} {n : Int} (hs : f_look_strength [B, .int 1] = .rt .none) (h : f_look_tests [B, x] = .ex ⟨"BadTests", some n⟩) (i : Nat) (hi : i < 8) : f_l_told_02 [.int 2, .int (i : Int), B, x] = .ro [.bool true, .bool true, .int n] := by
  unfold f_l_told_02
  rw [runD_eq]
  show ofS (g_l_told_02 [some (.d (.int 2)), some (.d (.int (i : Int))), some (.d B), some (.d x), none]) = _
  unfold g_l_told_02 tryS
  simp only [seqS_ap, ifS_ap, dropS_ap, thenS_ap, toB_ap, op2_ap, callR_ap, asCons_ap, asNil_ap, rd_ap, rdB_ap, kst_ap, List.getElem?_cons_succ, List.getElem?_cons_zero, Res.bind_ok, Res.map_ok, List.length_cons, List.length_nil, Nat.zero_add, Nat.reduceAdd, if_true, eqD_int, Res.of_some, boolD_bool, decide_true, Bool.false_eq_true, if_false, by_t hs h i hi, show decide ((2 : Int) = 0) = false from rfl, show decide ((2 : Int) = 1) = false from rfl, res_ex]
  rfl

/-! ### rows of any kind -/
def rowD (lv : List Nat) (d : D) : Bool := match d with
  | .tuple xs => decide (xs.length = lv.length) && (List.range lv.length).all fun i => withinB (xs.getD i .none) 0 (((lv.getD i 0 : Nat) : Int) - 1)
  | _ => false
theorem m_is_row_any {lv : List Nat} (hw : WL lv) {d : D} (hd : noDct d = true) : f_is_row [eR lv, d] = .rt (.bool (rowD lv d)) := by
  have i0 := isi_tuple (nd_of hd)
  have hn : lenD [eR lv] = some (.int (lv.length : Int)) := by simp [eR]
  unfold f_is_row
  rw [runD_eq]
  show ofS (g_is_row [some (.d (eR lv)), some (.d d), none]) = _
  unfold g_is_row
  by_cases ht : ∃ xs, d = .tuple xs
  · obtain ⟨xs, rfl⟩ := ht
    have hx : noDctA xs = true := hd
    have hn2 : lenD [.tuple xs] = some (.int (xs.length : Int)) := lenD_tup _
    by_cases hl : xs.length = lv.length
    · have hlt : (xs.length : Int) = (lv.length : Int) := by omega
      have e := lc_map (fi := DL.cb rng1 (asCons (DL.cb lenD (asCons (rdB 0) asNil)) asNil)) (t := tgName 2) (c := g_is_row_c1) (e := rd 2) (vs := [2]) (ρ := [some (.d (eR lv)), some (.d (.tuple xs)), none]) (enc := eN) (p := fun i => !withinB (xs.getD i .none) 0 (((lv.getD i 0 : Nat) : Int) - 1)) (g := eN) (List.range lv.length)
        (by
          simp only [cb_ap, asCons_ap, asNil_ap, rdB_ap, List.getElem?_cons_zero, Res.bind_ok, Res.map_ok, hn, Res.of_some]
          rw [rng1_N (by have := hw.hi; omega)]
          rfl)
        fun i hi => ⟨[some (.d (eR lv)), some (.d (.tuple xs)), some (.d (eN i))], rfl, by
          have hi' := List.mem_range.mp hi
          have hit : i < xs.length := by omega
          have a1 : atI xs (i : Int) = some xs[i] := DL.atI_nat (List.getElem?_eq_getElem hit)
          have a2 : atI (lv.map eN) (i : Int) = some (eN lv[i]) := atR hi'
          have w := m_within (nd_of (noDctA_mem hx xs[i] (List.getElem_mem hit))) 0 ((lv[i] : Int) - 1)
          have hp : xs.getD i .none = xs[i] := by rw [List.getD_eq_getElem?_getD, List.getElem?_eq_getElem hit]; rfl
          have hq : lv.getD i 0 = lv[i] := by rw [List.getD_eq_getElem?_getD, List.getElem?_eq_getElem hi']; rfl
          rw [hp, hq]
          unfold g_is_row_c1
          rw [show eR lv = .tuple (lv.map eN) from rfl, show eN i = .int (i : Int) from rfl]
          simp only [notT_ap, toTru_ap, callR_ap, asCons_ap, asNil_ap, op2_ap, rdB_ap, kst_ap, List.getElem?_cons_succ, List.getElem?_cons_zero, Res.bind_ok, Res.map_ok, ixD_tup, a1, a2, Res.of_some]
          simp only [eN, intD_int, if_true, Res.of_some, Res.bind_ok, Res.map_ok, List.length_cons, List.length_nil, Nat.zero_add, Nat.reduceAdd, w, res_rt, truD_bool], fun _ => rfl⟩
      have htr : truD (.list (((List.range lv.length).filter fun i => !withinB (xs.getD i .none) 0 (((lv.getD i 0 : Nat) : Int) - 1)).map eN)) = some (!((List.range lv.length).all fun i => withinB (xs.getD i .none) 0 (((lv.getD i 0 : Nat) : Int) - 1))) := by
        rw [truD_list, isEmpty_map, filter_isE]
        simp
      simp only [seqS_ap, ifS_ap, retS_ap, thenS_ap, orT_ap, notT_ap, toTru_ap, toB_ap, isiR_ap, cb_ap, op2_ap, asCons_ap, asNil_ap, rdB_ap, List.getElem?_cons_succ, List.getElem?_cons_zero, Res.bind_ok, Res.map_ok, i0, Option.map_some, Res.of_some, truD_bool, hn, hn2, hlt, neD_int, decide_true, boolD_bool, Bool.not_true, Bool.false_eq_true, if_false, ofB_ap, frz_ap, e, htr, Bool.not_not]
      rw [show rowD lv (.tuple xs) = (decide (xs.length = lv.length) && (List.range lv.length).all fun i => withinB (xs.getD i .none) 0 (((lv.getD i 0 : Nat) : Int) - 1)) from rfl, decide_eq_true hl, Bool.true_and]
      rfl
    · have hq : decide ((xs.length : Int) = (lv.length : Int)) = false := decide_eq_false (by omega)
      simp only [seqS_ap, ifS_ap, retS_ap, thenS_ap, orT_ap, notT_ap, toTru_ap, toB_ap, isiR_ap, cb_ap, op2_ap, asCons_ap, asNil_ap, rdB_ap, kst_ap, List.getElem?_cons_succ, List.getElem?_cons_zero, Res.bind_ok, Res.map_ok, i0, Option.map_some, Res.of_some, truD_bool, hn, hn2, neD_int, hq, boolD_bool, Bool.not_true, Bool.not_false, Bool.false_eq_true, if_false, if_true]
      rw [show rowD lv (.tuple xs) = (decide (xs.length = lv.length) && (List.range lv.length).all fun i => withinB (xs.getD i .none) 0 (((lv.getD i 0 : Nat) : Int) - 1)) from rfl, decide_eq_false hl, Bool.false_and]
      rfl
  · have i1 : isiD "tuple" d = some false := by
      rw [i0]
      cases d <;> first | rfl | exact absurd ⟨_, rfl⟩ ht
    have r : rowD lv d = false := by cases d <;> first | rfl | exact absurd ⟨_, rfl⟩ ht
    simp only [seqS_ap, ifS_ap, retS_ap, thenS_ap, orT_ap, notT_ap, toTru_ap, isiR_ap, kst_ap, rdB_ap, List.getElem?_cons_succ, List.getElem?_cons_zero, Res.bind_ok, Res.map_ok, i1, Option.map_some, Res.of_some, truD_bool, Bool.not_false, if_true, r]
    rfl
section
variable {b : Book}
/-- no test -/
def NoT (b : Book) (x : D) : Prop := (noDct x = true ∧ rowD b.1 x = false) ∨ ∃ r, x = eR r ∧ r ∈ rows b.1 ∧ allowed b r = false
theorem lt_good (h : WF b) {t : List Nat} (ht : t ∈ tests b) {z1 : Option B} (n : Int) : g_look_tests_b1 [some (.d (eB b)), z1, some (.d (.int n)), some (.d (eR t))] = .nx [some (.d (eB b)), z1, some (.d (.int n)), some (.d (eR t))] := by
  have hl : ixD (eB b) (.int 0) = some (eR b.1) := by simp [eB]
  have hr := (List.mem_filter.mp ht).1
  have ha := (List.mem_filter.mp ht).2
  have m1 := m_is_row h.wl hr
  have m2 := m_is_allowed (b := b) (t := t) fun m hm p hp => by rw [rows_mem_len b.1 t hr]; exact (h.ban m hm).lt p hp
  rw [ha] at m2
  unfold g_look_tests_b1
  simp only [ifS_ap, thenS_ap, orT_ap, notT_ap, toTru_ap, callR_ap, asCons_ap, asNil_ap, op2_ap, rd_ap, rdB_ap, kst_ap, List.getElem?_cons_succ, List.getElem?_cons_zero, Res.bind_ok, Res.map_ok, hl, Res.of_some, List.length_cons, List.length_nil, Nat.zero_add, Nat.reduceAdd, if_true, m1, m2, res_rt, truD_bool, Bool.not_true, Bool.false_eq_true, if_false]
theorem lt_bad (h : WF b) {x : D} (hx : NoT b x) {z1 : Option B} (n : Int) : g_look_tests_b1 [some (.d (eB b)), z1, some (.d (.int n)), some (.d x)] = .ex ⟨"BadTests", some n⟩ := by
  have hl : ixD (eB b) (.int 0) = some (eR b.1) := by simp [eB]
  unfold g_look_tests_b1
  rcases hx with ⟨h1, h2⟩ | ⟨r, rfl, hr, ha⟩
  · have m1 := m_is_row_any h.wl h1
    rw [h2] at m1
    simp only [ifS_ap, thenS_ap, orT_ap, notT_ap, toTru_ap, callR_ap, asCons_ap, asNil_ap, op2_ap, rd_ap, rdB_ap, kst_ap, List.getElem?_cons_succ, List.getElem?_cons_zero, Res.bind_ok, Res.map_ok, hl, Res.of_some, List.length_cons, List.length_nil, Nat.zero_add, Nat.reduceAdd, if_true, m1, res_rt, truD_bool, Bool.not_false]
    rfl
  · have m1 := m_is_row h.wl hr
    have m2 := m_is_allowed (b := b) (t := r) fun m hm p hp => by rw [rows_mem_len b.1 r hr]; exact (h.ban m hm).lt p hp
    rw [ha] at m2
    simp only [ifS_ap, thenS_ap, orT_ap, notT_ap, toTru_ap, callR_ap, asCons_ap, asNil_ap, op2_ap, rd_ap, rdB_ap, kst_ap, List.getElem?_cons_succ, List.getElem?_cons_zero, Res.bind_ok, Res.map_ok, hl, Res.of_some, List.length_cons, List.length_nil, Nat.zero_add, Nat.reduceAdd, if_true, m1, m2, res_rt, truD_bool, Bool.not_true, Bool.not_false, Bool.false_eq_true, if_false]
    rfl
theorem lt_loop (h : WF b) {x : D} (hx : NoT b x) (r : List D) {z1 : Option B} : ∀ (pre : List (List Nat)) (n : Nat) (z2 z3 : Option B), (∀ t ∈ pre, t ∈ tests b) → forL (tgPair 2 3) g_look_tests_b1 (((pre.map eR ++ x :: r).zipIdx n).map fun p : D × Nat => .tuple [.int ((p.2 : Nat) : Int), p.1]) [some (.d (eB b)), z1, z2, z3] = .ex ⟨"BadTests", some ((n + pre.length : Nat) : Int)⟩
  | [], n, z2, z3, _ => by
    have cons : forL (tgPair 2 3) g_look_tests_b1 (((([] : List (List Nat)).map eR ++ x :: r).zipIdx n).map fun p : D × Nat => .tuple [.int ((p.2 : Nat) : Int), p.1]) [some (.d (eB b)), z1, z2, z3] = (match g_look_tests_b1 [some (.d (eB b)), z1, some (.d (.int (n : Int))), some (.d x)] with
      | .nx ρ2 => forL (tgPair 2 3) g_look_tests_b1 ((r.zipIdx (n + 1)).map fun p : D × Nat => .tuple [.int ((p.2 : Nat) : Int), p.1]) ρ2
      | .ct ρ2 => forL (tgPair 2 3) g_look_tests_b1 ((r.zipIdx (n + 1)).map fun p : D × Nat => .tuple [.int ((p.2 : Nat) : Int), p.1]) ρ2
      | .bk ρ2 => .nx ρ2
      | o => o) := rfl
    rw [cons, lt_bad h hx]
    rfl
  | t :: pre, n, z2, z3, ht => by
    have cons : forL (tgPair 2 3) g_look_tests_b1 ((((t :: pre).map eR ++ x :: r).zipIdx n).map fun p : D × Nat => .tuple [.int ((p.2 : Nat) : Int), p.1]) [some (.d (eB b)), z1, z2, z3] = (match g_look_tests_b1 [some (.d (eB b)), z1, some (.d (.int (n : Int))), some (.d (eR t))] with
      | .nx ρ2 => forL (tgPair 2 3) g_look_tests_b1 (((pre.map eR ++ x :: r).zipIdx (n + 1)).map fun p : D × Nat => .tuple [.int ((p.2 : Nat) : Int), p.1]) ρ2
      | .ct ρ2 => forL (tgPair 2 3) g_look_tests_b1 (((pre.map eR ++ x :: r).zipIdx (n + 1)).map fun p : D × Nat => .tuple [.int ((p.2 : Nat) : Int), p.1]) ρ2
      | .bk ρ2 => .nx ρ2
      | o => o) := rfl
    rw [cons, lt_good h (ht t (by simp))]
    show forL _ _ _ _ = _
    rw [lt_loop h hx r pre (n + 1) _ _ fun t' ht' => ht t' (by simp [ht'])]
    rw [List.length_cons, show n + 1 + pre.length = n + (pre.length + 1) by omega]
theorem look_bad (h : WF b) {x : D} (hx : NoT b x) (pre : List (List Nat)) (r : List D) (ht : ∀ t ∈ pre, t ∈ tests b) : f_look_tests [eB b, .list (pre.map eR ++ x :: r)] = .ex ⟨"BadTests", some (pre.length : Int)⟩ := by
  have e := lt_loop h hx r (z1 := some (.d (.list (pre.map eR ++ x :: r)))) pre 0 none none ht
  rw [Nat.zero_add] at e
  unfold f_look_tests
  rw [runD_eq]
  show ofS (g_look_tests [some (.d (eB b)), some (.d (.list (pre.map eR ++ x :: r))), none, none]) = _
  unfold g_look_tests
  simp only [seqS_ap, ifS_ap, forS_ap, thenS_ap, notT_ap, toTru_ap, isiR_ap, rd_ap, rdB_ap, List.getElem?_cons_succ, List.getElem?_cons_zero, Res.bind_ok, Res.map_ok, isi_list_list, Option.map_some, Res.of_some, truD_bool, Bool.not_true, Bool.false_eq_true, if_false, toEnum_ap, seqOf_list, enumL, e, ofS_ex]
theorem look_no {d : D} (hd : isiD "list" d = some false) : f_look_tests [eB b, d] = .ex ⟨"BadTests", some 0⟩ := by
  unfold f_look_tests
  rw [runD_eq]
  show ofS (g_look_tests [some (.d (eB b)), some (.d d), none, none]) = _
  unfold g_look_tests
  simp only [seqS_ap, ifS_ap, thenS_ap, notT_ap, toTru_ap, isiR_ap, rdB_ap, kst_ap, List.getElem?_cons_succ, List.getElem?_cons_zero, Res.bind_ok, Res.map_ok, hd, Option.map_some, Res.of_some, truD_bool, Bool.not_false, if_true]
  rfl
end

theorem nat_mod (c : Int) {k : Nat} (h : 0 < k) : ∃ i : Nat, i < k ∧ modD (.int c) (.int (k : Int)) = some (.int (i : Int)) := by
  have a := Int.emod_nonneg c (show (k : Int) ≠ 0 by omega)
  have d := Int.emod_lt_of_pos c (show (0 : Int) < (k : Int) by omega)
  refine ⟨(c % (k : Int)).toNat, by omega, ?_⟩
  rw [Int.toNat_of_nonneg a]
  show (if (decide ((0 : Int) < (k : Int))) = true then some (PyData.int (c % (k : Int))) else none) = _
  rw [if_pos (by simpa using h)]
theorem repD_one (x : D) (n : Nat) : repD [x] (n : Int) = List.replicate n x := by
  unfold repD
  rw [Int.toNat_natCast]
  simp
theorem mul_tup (x : D) {n : Nat} (h : n ≤ 1000) : mulA (.tuple [x]) (.int (n : Int)) = some (.tuple (List.replicate n x)) := by
  show (if (Nat.ble 1 1000 && (decide (0 ≤ (n : Int)) && decide ((n : Int) ≤ 1000))) = true then some (PyData.tuple (repD [x] (n : Int))) else none) = _
  rw [decide_eq_true (by omega), decide_eq_true (by omega), if_pos (by rfl), repD_one]
theorem mul_lst' (x : D) {n : Nat} (h : n ≤ 1000) : mulA (.list [x]) (.int (n : Int)) = some (.list (List.replicate n x)) := by
  show (if (Nat.ble 1 1000 && (decide (0 ≤ (n : Int)) && decide ((n : Int) ≤ 1000))) = true then some (PyData.list (repD [x] (n : Int))) else none) = _
  rw [decide_eq_true (by omega), decide_eq_true (by omega), if_pos (by rfl), repD_one]
theorem nd_rep {x : D} (h : noDct x = true) (n : Nat) : noDctA (List.replicate n x) = true := noDctA_of fun y hy => by rw [List.eq_of_mem_replicate hy]; exact h
theorem row_no {lv : List Nat} (h : 1 ≤ lv.length) {x : D} {xs : List D} (hx : withinB x 0 (((lv.getD 0 0 : Nat) : Int) - 1) = false) : rowD lv (.tuple (x :: xs)) = false := by
  show (decide ((x :: xs).length = lv.length) && (List.range lv.length).all fun i => withinB ((x :: xs).getD i .none) 0 (((lv.getD i 0 : Nat) : Int) - 1)) = false
  rw [Bool.and_eq_false_iff]
  right
  rw [List.all_eq_false]
  exact ⟨0, List.mem_range.mpr (by omega), by
    rw [show (x :: xs).getD 0 PyData.none = x from rfl, hx]
    decide⟩
theorem row_len {lv : List Nat} {xs : List D} (h : xs.length ≠ lv.length) : rowD lv (.tuple xs) = false := by
  show (decide (xs.length = lv.length) && _) = false
  rw [decide_eq_false h, Bool.false_and]
/-- what stands in the place of a test -/
def someA (lv : List Nat) : List D := [.none, .int 7, .tuple (List.replicate (lv.length + 1) (.int 0)), .list (List.replicate lv.length (.int 0)), eR lv]
def someB (lv : List Nat) : List D := [.tuple (.int (-1) :: (lv.map eN).drop 1), .tuple (List.replicate lv.length (.bool true))]
def someC (lv : List Nat) : List D := [.tuple (List.replicate lv.length (.str (Str.ofString "0"))), .tuple []]
def noRows (b : Book) : List (List Nat) := (rows b.1).filter fun r => !(tests b).contains r
def someAll (b : Book) : List D := ((someA b.1 ++ someB b.1) ++ someC b.1) ++ (noRows b).map eR
theorem rep_cons {lv : List Nat} (h : 1 ≤ lv.length) (x : D) : List.replicate lv.length x = x :: List.replicate (lv.length - 1) x := by
  conv => lhs; rw [show lv.length = (lv.length - 1) + 1 by omega]
  rfl
theorem some_no {b : Book} (h : WF b) {x : D} (hx : x ∈ someAll b) : NoT b x := by
  have l1 := h.wl.lo
  unfold someAll at hx
  rcases List.mem_append.mp hx with hx | hx
  · left
    rcases List.mem_append.mp hx with hx | hx
    · rcases List.mem_append.mp hx with hx | hx
      · unfold someA at hx
        simp only [List.mem_cons, List.not_mem_nil, or_false] at hx
        rcases hx with rfl | rfl | rfl | rfl | rfl
        · exact ⟨rfl, rfl⟩
        · exact ⟨rfl, rfl⟩
        · exact ⟨nd_rep rfl _, row_len (by simp)⟩
        · exact ⟨nd_rep rfl _, rfl⟩
        · refine ⟨noDct_R _, ?_⟩
          match hb : b.1, l1 with
          | l :: lv, _ =>
            show rowD (l :: lv) (.tuple (eN l :: lv.map eN)) = false
            refine row_no (by simp) ?_
            show (decide ((0 : Int) ≤ (l : Int)) && decide ((l : Int) ≤ (l : Int) - 1)) = false
            rw [decide_eq_false (by omega : ¬ (l : Int) ≤ (l : Int) - 1), Bool.and_false]
      · unfold someB at hx
        simp only [List.mem_cons, List.not_mem_nil, or_false] at hx
        rcases hx with rfl | rfl
        · refine ⟨noDctA_of fun y hy => ?_, row_no l1 rfl⟩
          rcases List.mem_cons.mp hy with rfl | hy
          · rfl
          · obtain ⟨n, _, rfl⟩ := List.mem_map.mp (List.mem_of_mem_drop hy)
            rfl
        · refine ⟨nd_rep rfl _, ?_⟩
          rw [rep_cons l1]
          exact row_no l1 rfl
    · unfold someC at hx
      simp only [List.mem_cons, List.not_mem_nil, or_false] at hx
      rcases hx with rfl | rfl
      · refine ⟨nd_rep rfl _, ?_⟩
        rw [rep_cons l1]
        exact row_no l1 rfl
      · exact ⟨rfl, row_len (by simp; omega)⟩
  · right
    obtain ⟨r, hr, rfl⟩ := List.mem_map.mp hx
    unfold noRows at hr
    obtain ⟨h1, h2⟩ := List.mem_filter.mp hr
    refine ⟨r, rfl, h1, ?_⟩
    cases ha : allowed b r with
    | false => rfl
    | true =>
      have : r ∈ tests b := List.mem_filter.mpr ⟨h1, ha⟩
      rw [List.contains_iff_mem.mpr this] at h2
      cases h2
theorem cutTo (rs : List (List Nat)) (i : Nat) : cutD (.list (rs.map eR)) none (some (i : Int)) = some (.list ((rs.take i).map eR)) := by
  rw [List.map_take]
  exact cutD_to (rs.map eR) i
theorem cutFrom (rs : List (List Nat)) (i : Nat) : cutD (.list (rs.map eR)) (some (i : Int)) none = some (.list ((rs.drop i).map eR)) := by
  rw [List.map_drop]
  exact cutD_from (rs.map eR) i
theorem neL2 : neD (.list [.bool true, .bool true]) (.list [.bool true, .bool true]) = some (.bool false) := by
  have h := shapedBs [true, true]
  change SeqAt.shaped (.list [.bool true, .bool true]) = true at h
  unfold neD
  rw [if_pos ⟨h, h⟩]
  rfl
theorem neL3 (n : Int) : neD (.list [.bool true, .bool true, .int n]) (.list [.bool true, .bool true, .int n]) = some (.bool false) := by
  have h : SeqAt.shaped (.list [.bool true, .bool true, .int n]) = true := by
    simp [SeqAt.shaped, PyData.canLay0, PyData.canLayAll0, PyData.depth, PyData.depthAll]
  unfold neD
  rw [if_pos ⟨h, h⟩]
  simp [PyData.eqv, PyData.eqvAll]
section
variable {b : Book} {ns : List Int} {odd : D}
theorem ways (h : f_look_strength [eB b, odd] = .ex ⟨"BadStrength", none⟩) (q k : Nat) (hq : (q = 0 ∧ k = 8) ∨ (q = 1 ∧ k = 7)) {y5 : Option B} : g_law_02_b1 [some (.d (eS ns)), some (.d (eB b)), some (.d odd), some (.d (.int (q : Int))), some (.d (.int (k : Int))), y5, none, none, none, none, none, none] = .nx [some (.d (eS ns)), some (.d (eB b)), some (.d odd), some (.d (.int (q : Int))), some (.d (.int (k : Int))), y5, none, none, none, none, none, none] := by
  have e := lc_map (fi := DL.cb rng1 (asCons (rdB 4) asNil)) (t := tgName 5) (c := g_law_02_c1) (e := rd 5) (vs := [5]) (ρ := [some (.d (eS ns)), some (.d (eB b)), some (.d odd), some (.d (.int (q : Int))), some (.d (.int (k : Int))), y5, none, none, none, none, none, none]) (enc := eN) (p := fun _ => false) (g := eN) (List.range k)
    (by
      simp only [cb_ap, asCons_ap, asNil_ap, rdB_ap, List.getElem?_cons_succ, List.getElem?_cons_zero, Res.bind_ok, Res.map_ok]
      rw [rng1_N (by omega)]
      rfl) fun i hi => by
      have hi := List.mem_range.mp hi
      refine ⟨[some (.d (eS ns)), some (.d (eB b)), some (.d odd), some (.d (.int (q : Int))), some (.d (.int (k : Int))), some (.d (.int (i : Int))), none, none, none, none, none, none], rfl, ?_, fun z => by cases z⟩
      have t : f_l_told_02 [.int (q : Int), .int (i : Int), eB b, odd] = .ro [.bool true, .bool true] := by
        rcases hq with ⟨rfl, rfl⟩ | ⟨rfl, rfl⟩
        · exact told0 h i hi
        · exact told1 h i hi
      unfold g_law_02_c1
      simp only [toB_ap, op2_ap, callR_ap, frz_ap, disp_ap, asCons_ap, asNil_ap, rd_ap, kst_ap, List.getElem?_cons_succ, List.getElem?_cons_zero, Res.bind_ok, Res.map_ok, List.length_cons, List.length_nil, Nat.zero_add, Nat.reduceAdd, Nat.reduceLeDiff, if_true, t, res_ro, neL2, Res.of_some, boolD_bool]
  rw [show (List.range k).filter (fun _ => false) = [] by simp, List.map_nil] at e
  have tn : truD (.list []) = some false := rfl
  unfold g_law_02_b1
  simp only [ifS_ap, thenS_ap, toTru_ap, frz_ap, e, Res.map_ok, Res.bind_ok, tn, Res.of_some, Bool.false_eq_true, if_false]
theorem fin (hs : f_look_strength [eB b, .int 1] = .rt .none) {bad : D} {n : Int} (h : f_look_tests [eB b, bad] = .ex ⟨"BadTests", some n⟩) {y3 y4 y5 y6 y7 y8 y9 : Option B} :
    lc (DL.cb rng1 (asCons (kst (.int 8)) asNil)) (tgName 5) g_law_02_c3 (rd 5) [5] [some (.d (eS ns)), some (.d (eB b)), some (.d odd), y3, y4, y5, y6, y7, y8, y9, some (.d bad), some (.d (.int n))] = .ok [] := by
  have e := lc_map (fi := DL.cb rng1 (asCons (kst (.int 8)) asNil)) (t := tgName 5) (c := g_law_02_c3) (e := rd 5) (vs := [5]) (ρ := [some (.d (eS ns)), some (.d (eB b)), some (.d odd), y3, y4, y5, y6, y7, y8, y9, some (.d bad), some (.d (.int n))]) (enc := eN) (p := fun _ => false) (g := eN) (List.range 8)
    (by
      simp only [cb_ap, asCons_ap, asNil_ap, kst_ap, Res.bind_ok, Res.map_ok]
      rw [show PyData.int 8 = .int ((8 : Nat) : Int) from rfl, rng1_N (by omega)]
      rfl) fun i hi => by
      have hi := List.mem_range.mp hi
      refine ⟨[some (.d (eS ns)), some (.d (eB b)), some (.d odd), y3, y4, some (.d (.int (i : Int))), y6, y7, y8, y9, some (.d bad), some (.d (.int n))], rfl, ?_, fun z => by cases z⟩
      unfold g_law_02_c3
      simp only [toB_ap, op2_ap, callR_ap, frz_ap, disp_ap, asCons_ap, asNil_ap, rd_ap, kst_ap, List.getElem?_cons_succ, List.getElem?_cons_zero, Res.bind_ok, Res.map_ok, List.length_cons, List.length_nil, Nat.zero_add, Nat.reduceAdd, Nat.reduceLeDiff, if_true, told2 hs h i hi, res_ro, neL3, Res.of_some, boolD_bool]
  rw [show (List.range 8).filter (fun _ => false) = [] from rfl, List.map_nil] at e
  exact e
end

theorem law_ok (ns : List Int) (hn : ns.length ≤ 63) : f_law_02 [.list (ns.map PyData.int)] = .rt (.bool true) := by
  obtain ⟨b, h, e1⟩ := m_l_book (ns := ns) 3 hn
  rw [show ((3 : Nat) : Int) = 3 from rfl] at e1
  have c0 := m_l_cell ns 0
  have c1 := m_l_cell ns 1
  have c2 := m_l_cell ns 2
  rw [show ((0 : Nat) : Int) = 0 from rfl] at c0
  rw [show ((1 : Nat) : Int) = 1 from rfl] at c1
  rw [show ((2 : Nat) : Int) = 2 from rfl] at c2
  have l1 := h.wl.lo
  have l4 := h.wl.hi
  have sz := sizeLine_big
  have lk : (b.1.map eN).length = b.1.length := List.length_map _
  -- the thing that is no strength
  obtain ⟨v, hv, hv2⟩ : ∃ v : Int, mulD (.int 3) (.int (if decide ((2 : Int) < (b.1.length : Int)) = true then 1 else 0)) = some (.int v) ∧ ((b.1.length : Int) < 3 ∧ v = 0 ∨ (b.1.length : Int) ≥ 3 ∧ v = 3) := by
    by_cases h3 : (2 : Int) < (b.1.length : Int)
    · exact ⟨3, by rw [decide_eq_true h3, if_pos rfl]; exact mulD_small' (smallI_of (by omega) (by omega)), .inr ⟨by omega, rfl⟩⟩
    · exact ⟨0, by rw [decide_eq_false h3, if_neg (by decide)]; exact mulD_small' (smallI_of (by omega) (by omega)), .inl ⟨by omega, rfl⟩⟩
  have hg : gtD (.int (b.1.length : Int)) (.int 2) = some (.bool (decide ((2 : Int) < (b.1.length : Int)))) := rfl
  have hi1 : intD1 [.bool (decide ((2 : Int) < (b.1.length : Int)))] = some (.int (if decide ((2 : Int) < (b.1.length : Int)) = true then 1 else 0)) := rfl
  obtain ⟨p, odd, hp, ho, e2⟩ := pick [PyData.none, .int 0, .int 4, .bool true, .str (Str.ofString "1"), .list [.int 1], .int (-1), .int ((b.1.length : Int) + 1 + v), .tuple [.int 1]] (by simp) (cellOf ns 0)
  change modD (.int (cellOf ns 0)) (.int 9) = _ at e2
  have e3 : ixD (.list [PyData.none, .int 0, .int 4, .bool true, .str (Str.ofString "1"), .list [.int 1], .int (-1), .int ((b.1.length : Int) + 1 + v), .tuple [.int 1]]) (.int (p : Int)) = some odd := DL.atI_nat hp
  have o1 : noDct odd = true := by
    simp only [List.mem_cons, List.not_mem_nil, or_false] at ho
    rcases ho with rfl | rfl | rfl | rfl | rfl | rfl | rfl | rfl | rfl <;> rfl
  have o2 : withinB odd 1 (if (b.1.length : Int) < 3 then (b.1.length : Int) else 3) = false := by
    generalize hm : (if (b.1.length : Int) < 3 then (b.1.length : Int) else 3) = m
    have m3 : m ≤ 3 ∧ ((b.1.length : Int) < 3 → m = (b.1.length : Int)) := by
      rw [← hm]
      split <;> omega
    simp only [List.mem_cons, List.not_mem_nil, or_false] at ho
    rcases ho with rfl | rfl | rfl | rfl | rfl | rfl | rfl | rfl | rfl
    · rfl
    · show (decide ((1 : Int) ≤ 0) && decide ((0 : Int) ≤ m)) = false
      rfl
    · show (decide ((1 : Int) ≤ 4) && decide ((4 : Int) ≤ m)) = false
      rw [decide_eq_false (by omega : ¬ (4 : Int) ≤ m), Bool.and_false]
    · rfl
    · rfl
    · rfl
    · rfl
    · show (decide ((1 : Int) ≤ (b.1.length : Int) + 1 + v) && decide ((b.1.length : Int) + 1 + v ≤ m)) = false
      rw [decide_eq_false (by omega : ¬ (b.1.length : Int) + 1 + v ≤ m), Bool.and_false]
    · rfl
  have S := m_look_strength_any h o1
  rw [o2, if_neg (by decide)] at S
  have hs := m_look_strength h (s := 1) (by decide) (by decide) l1
  rw [show ((1 : Nat) : Int) = 1 from rfl] at hs
  have loop : forL (tgPair 3 4) g_law_02_b1 [.tuple [.int 0, .int 8], .tuple [.int 1, .int 7]] [some (.d (eS ns)), some (.d (eB b)), some (.d odd), none, none, none, none, none, none, none, none, none] = .nx [some (.d (eS ns)), some (.d (eB b)), some (.d odd), some (.d (.int 1)), some (.d (.int 7)), none, none, none, none, none, none, none] := by
    have w0 := ways (ns := ns) S 0 8 (.inl ⟨rfl, rfl⟩) (y5 := none)
    have w1 := ways (ns := ns) S 1 7 (.inr ⟨rfl, rfl⟩) (y5 := none)
    change g_law_02_b1 [some (.d (eS ns)), some (.d (eB b)), some (.d odd), some (.d (.int 0)), some (.d (.int 8)), none, none, none, none, none, none, none] = .nx [some (.d (eS ns)), some (.d (eB b)), some (.d odd), some (.d (.int 0)), some (.d (.int 8)), none, none, none, none, none, none, none] at w0
    change g_law_02_b1 [some (.d (eS ns)), some (.d (eB b)), some (.d odd), some (.d (.int 1)), some (.d (.int 7)), none, none, none, none, none, none, none] = .nx [some (.d (eS ns)), some (.d (eB b)), some (.d odd), some (.d (.int 1)), some (.d (.int 7)), none, none, none, none, none, none, none] at w1
    have a0 : forL (tgPair 3 4) g_law_02_b1 [.tuple [.int 0, .int 8], .tuple [.int 1, .int 7]] [some (.d (eS ns)), some (.d (eB b)), some (.d odd), none, none, none, none, none, none, none, none, none] = (match g_law_02_b1 [some (.d (eS ns)), some (.d (eB b)), some (.d odd), some (.d (.int 0)), some (.d (.int 8)), none, none, none, none, none, none, none] with
      | .nx ρ2 => forL (tgPair 3 4) g_law_02_b1 [.tuple [.int 1, .int 7]] ρ2
      | .ct ρ2 => forL (tgPair 3 4) g_law_02_b1 [.tuple [.int 1, .int 7]] ρ2
      | .bk ρ2 => .nx ρ2
      | o => o) := rfl
    rw [a0, w0]
    have a1 : forL (tgPair 3 4) g_law_02_b1 [.tuple [.int 1, .int 7]] [some (.d (eS ns)), some (.d (eB b)), some (.d odd), some (.d (.int 0)), some (.d (.int 8)), none, none, none, none, none, none, none] = (match g_law_02_b1 [some (.d (eS ns)), some (.d (eB b)), some (.d odd), some (.d (.int 1)), some (.d (.int 7)), none, none, none, none, none, none, none] with
      | .nx ρ2 => .nx ρ2
      | .ct ρ2 => .nx ρ2
      | .bk ρ2 => .nx ρ2
      | o => o) := rfl
    show forL (tgPair 3 4) g_law_02_b1 [.tuple [.int 1, .int 7]] [some (.d (eS ns)), some (.d (eB b)), some (.d odd), some (.d (.int 0)), some (.d (.int 8)), none, none, none, none, none, none, none] = _
    rw [a1, w1]
  -- the tests, one spoilt
  obtain ⟨T, hT, hTl, e4⟩ := m_l_drawn (ns := ns) h 6 (most := 5) (by decide)
  rw [show ((6 : Nat) : Int) = 6 from rfl, show ((5 : Nat) : Int) = 5 from rfl] at e4
  obtain ⟨i, hi, e5⟩ := nat_mod (cellOf ns 1) (k := T.length + 1) (by omega)
  rw [Int.natCast_add, show ((1 : Nat) : Int) = 1 from rfl] at e5
  have lT : lenD [.list (T.map eR)] = some (.int (T.length : Int)) := by rw [lenD_list, List.length_map]
  have m1 : mulA (.tuple [.int 0]) (.int ((b.1.length : Int) + 1)) = some (.tuple (List.replicate (b.1.length + 1) (.int 0))) := by
    have := mul_tup (.int 0) (n := b.1.length + 1) (by omega)
    rw [Int.natCast_add] at this
    exact this
  have m2 := mul_lst' (.int 0) (n := b.1.length) (by omega)
  have m3 := mul_tup (.bool true) (n := b.1.length) (by omega)
  have m4 := mul_tup (.str (Str.ofString "0")) (n := b.1.length) (by omega)
  have t1 : cutD (.tuple (b.1.map eN)) (some 1) none = some (.tuple ((b.1.map eN).drop 1)) := by
    show some (PyData.tuple (cutG (b.1.map eN) (some ((1 : Nat) : Int)) none)) = _
    rw [cut_from]
  have t2 : addD (.tuple [.int (-1)]) (.tuple ((b.1.map eN).drop 1)) = some (.tuple (.int (-1) :: (b.1.map eN).drop 1)) := by
    show (if 1 + ((b.1.map eN).drop 1).length ≤ sizeLine then _ else none) = _
    rw [if_pos (by rw [List.length_drop, List.length_map]; omega)]
    rfl
  have u1 : [PyData.none, .int 7, .tuple (List.replicate (b.1.length + 1) (.int 0)), .list (List.replicate b.1.length (.int 0)), .tuple (b.1.map eN)] = someA b.1 := rfl
  have u2 : [PyData.tuple (.int (-1) :: (b.1.map eN).drop 1), .tuple (List.replicate b.1.length (.bool true))] = someB b.1 := rfl
  have u3 : [PyData.tuple (List.replicate b.1.length (.str (Str.ofString "0"))), .tuple []] = someC b.1 := rfl
  have v1 : (someA b.1).length = 5 := rfl
  have v2 : (someB b.1).length = 2 := rfl
  have v3 : (someC b.1).length = 2 := rfl
  have rl := rows_le h
  have nl : (noRows b).length ≤ 81 := Nat.le_trans (List.length_filter_le _ _) rl
  have a1 : addD (.list (someA b.1)) (.list (someB b.1)) = some (.list (someA b.1 ++ someB b.1)) := by
    show (if 5 + 2 ≤ sizeLine then _ else none) = _
    rw [if_pos (by omega)]
    rfl
  have a2 : addD (.list (someA b.1 ++ someB b.1)) (.list (someC b.1)) = some (.list ((someA b.1 ++ someB b.1) ++ someC b.1)) := by
    show (if 7 + 2 ≤ sizeLine then _ else none) = _
    rw [if_pos (by omega)]
    rfl
  have a3 : addD (.list ((someA b.1 ++ someB b.1) ++ someC b.1)) (.list ((noRows b).map eR)) = some (.list (someAll b)) := by
    show (if 9 + ((noRows b).map eR).length ≤ sizeLine then _ else none) = _
    rw [if_pos (by rw [List.length_map]; omega)]
    rfl
  have e6 := m_l_rows h.wl
  have e7 := m_l_tests h
  obtain ⟨q, x, hq, hx, e8⟩ := pick (someAll b) (by unfold someAll someA; simp) (cellOf ns 2)
  have e9 : ixD (.list (someAll b)) (.int (q : Int)) = some x := DL.atI_nat hq
  have lA : lenD [.list (someAll b)] = some (.int ((someAll b).length : Int)) := lenD_list _
  have a4 : addD (.list ((T.take i).map eR)) (.list [x]) = some (.list ((T.take i).map eR ++ [x])) := by
    show (if ((T.take i).map eR).length + 1 ≤ sizeLine then _ else none) = _
    rw [if_pos (by rw [List.length_map, List.length_take]; omega)]
  have a5 : addD (.list ((T.take i).map eR ++ [x])) (.list ((T.drop i).map eR)) = some (.list ((T.take i).map eR ++ x :: (T.drop i).map eR)) := by
    show (if ((T.take i).map eR ++ [x]).length + ((T.drop i).map eR).length ≤ sizeLine then some (PyData.list (((T.take i).map eR ++ [x]) ++ (T.drop i).map eR)) else none) = _
    rw [if_pos (by rw [List.length_append, List.length_map, List.length_map, List.length_take, List.length_drop]; simp; omega), List.append_assoc]
    rfl
  have look1 := look_bad h (some_no h hx) (T.take i) ((T.drop i).map eR) fun t ht => hT t (List.mem_of_mem_take ht)
  rw [List.length_take, Nat.min_eq_left (by omega)] at look1
  have hc2 : ∀ (y8 : Option B), lc (toSeq (callR 1 f_l_rows (asCons (op2 ixD (rdB 1) (kst (.int 0))) asNil))) (tgName 9) g_law_02_c2 (rd 9) [9] [some (.d (eS ns)), some (.d (eB b)), some (.d odd), some (.d (.int 1)), some (.d (.int 7)), none, some (.d (.list (T.map eR))), some (.d (.int (i : Int))), y8, none, none, none] = .ok ((noRows b).map eR) := fun y8 => by
    have e := lc_map (fi := toSeq (callR 1 f_l_rows (asCons (op2 ixD (rdB 1) (kst (.int 0))) asNil))) (t := tgName 9) (c := g_law_02_c2) (e := rd 9) (vs := [9]) (ρ := [some (.d (eS ns)), some (.d (eB b)), some (.d odd), some (.d (.int 1)), some (.d (.int 7)), none, some (.d (.list (T.map eR))), some (.d (.int (i : Int))), y8, none, none, none]) (enc := eR) (p := fun r => !(tests b).contains r) (g := eR) (rows b.1)
      (by
        simp only [toSeq_ap, callR_ap, asCons_ap, asNil_ap, op2_ap, rdB_ap, kst_ap, List.getElem?_cons_succ, List.getElem?_cons_zero, Res.bind_ok, Res.map_ok, eB0, Res.of_some, List.length_cons, List.length_nil, Nat.zero_add, Nat.reduceAdd, if_true]
        rw [show PyData.tuple (b.1.map eN) = eR b.1 from rfl, e6]
        rfl) fun r hr => ⟨[some (.d (eS ns)), some (.d (eB b)), some (.d odd), some (.d (.int 1)), some (.d (.int 7)), none, some (.d (.list (T.map eR))), some (.d (.int (i : Int))), y8, some (.d (eR r)), none, none], rfl, by
          have mm := in_R true r (tests b)
          unfold g_law_02_c2
          simp only [toB_ap, op2_ap, callR_ap, asCons_ap, asNil_ap, rd_ap, rdB_ap, List.getElem?_cons_succ, List.getElem?_cons_zero, Res.bind_ok, Res.map_ok, List.length_cons, List.length_nil, Nat.zero_add, Nat.reduceAdd, if_true, e7, res_ro, mm, Res.of_some, boolD_bool, Bool.true_xor], fun _ => rfl⟩
    exact e
  obtain ⟨k, hk, e10⟩ := nat_mod (cellOf ns 1) (k := 7) (by decide)
  rw [show ((7 : Nat) : Int) = 7 from rfl] at e10
  have e11 := eqD_int (k : Int) 6
  obtain ⟨p2, bad, hp2, hb2, e12⟩ := pick [PyData.none, .tuple (T.map eR), .int 7] (by simp) (cellOf ns 0)
  change modD (.int (cellOf ns 0)) (.int 3) = _ at e12
  have e13 : ixD (.list [PyData.none, .tuple (T.map eR), .int 7]) (.int (p2 : Int)) = some bad := DL.atI_nat hp2
  have look2 : f_look_tests [eB b, bad] = .ex ⟨"BadTests", some 0⟩ := look_no (by
    simp only [List.mem_cons, List.not_mem_nil, or_false] at hb2
    rcases hb2 with rfl | rfl | rfl <;> rfl)
  have f1 := fun y8 => fin (ns := ns) (odd := odd) hs look1 (y3 := some (.d (.int 1))) (y4 := some (.d (.int 7))) (y5 := none) (y6 := some (.d (.list (T.map eR)))) (y7 := some (.d (.int (i : Int)))) (y8 := y8) (y9 := none)
  have f2 := fun y8 => fin (ns := ns) (odd := odd) hs look2 (y3 := some (.d (.int 1))) (y4 := some (.d (.int 7))) (y5 := none) (y6 := some (.d (.list (T.map eR)))) (y7 := some (.d (.int (i : Int)))) (y8 := y8) (y9 := none)
  have e14 : eqD (.list []) (.list []) = some (.bool true) := eq_same nmNil (by decide)
  unfold f_law_02
  rw [runD_eq]
  show ofS (g_law_02 [some (.d (eS ns)), none, none, none, none, none, none, none, none, none, none, none]) = _
  unfold g_law_02
  by_cases hk6 : (k : Int) = 6
  · rw [decide_eq_true hk6] at e11
    simp only [v1, v2, v3, seqS_ap, setS_ap, forS_ap, ifS_ap, retS_ap, thenS_ap, toB_ap, toSeq_ap, op2_ap, sl3_ap, ptN_ap, ptS_ap, negR_ap, frz_ap, dispT_ap, disp_ap, cb_ap, callR_ap, asCons_ap, asNil_ap, rd_ap, rdB_ap, kst_ap, List.getElem?_cons_succ, List.getElem?_cons_zero, Res.bind_ok, Res.map_ok, List.length_cons, List.length_nil, Nat.zero_add, Nat.reduceAdd, Nat.reduceLeDiff, Nat.zero_le, if_true, e1, res_rt, List.set_cons_succ, List.set_cons_zero, eB0, Res.of_some, lenD_tup, lk, addD_int, hg, hi1, hv, c0, c1, c2, e2, e3, seqOf_list, loop, e4, res_ro, lT, e5, m1, m2, m3, m4, intOf_int, t1, t2, u1, u2, u3, a1, a2, hc2, a3, lA, e8, e9, cutTo, cutFrom, a4, a5, e10, e11, boolD_bool, toTupD_list, e12, e13, f2, e14, ofS_rt]
  · rw [decide_eq_false hk6] at e11
    simp only [v1, v2, v3, seqS_ap, setS_ap, forS_ap, ifS_ap, retS_ap, thenS_ap, toB_ap, toSeq_ap, op2_ap, sl3_ap, ptN_ap, ptS_ap, negR_ap, frz_ap, dispT_ap, disp_ap, cb_ap, callR_ap, asCons_ap, asNil_ap, rd_ap, rdB_ap, kst_ap, List.getElem?_cons_succ, List.getElem?_cons_zero, Res.bind_ok, Res.map_ok, List.length_cons, List.length_nil, Nat.zero_add, Nat.reduceAdd, Nat.reduceLeDiff, Nat.zero_le, if_true, e1, res_rt, List.set_cons_succ, List.set_cons_zero, eB0, Res.of_some, lenD_tup, lk, addD_int, hg, hi1, hv, c0, c1, c2, e2, e3, seqOf_list, loop, e4, res_ro, lT, e5, m1, m2, m3, m4, intOf_int, t1, t2, u1, u2, u3, a1, a2, hc2, a3, lA, e8, e9, cutTo, cutFrom, a4, a5, e10, e11, boolD_bool, Bool.false_eq_true, if_false, f1, e14, ofS_rt]
end K02


namespace K02
open PySem PySem.Spec PyProof.Rows L2 DL
def topS (i : Nat) : Stmt := PySem.Challenge.pw_pairtests_k02_strengths_and_tests.main.body.getD i (.Pass ⟨0, 0, 0, 0⟩)
abbrev ns : List String := ["TestError", "BadBook", "BadStrength", "BadTests", "BadNumber", "BadResults", "TooBig"]
abbrev s_bad : Stmt := inClass (topS 4) 0
theorem sc_bad : FnScope ["self", "text", "at"] ["self", "text", "at"] (defScope s_bad) := ⟨rfl, rfl, rfl, by decide +kernel, rfl, by decide +kernel, by decide +kernel⟩
abbrev s_is_within : Stmt := topS 13
abbrev N_is_within : List Str := ["thing", "low", "high"]
theorem sc_is_within : FnScope N_is_within ["thing", "low", "high"] (defScope s_is_within) := ⟨rfl, rfl, rfl, by decide +kernel, rfl, by decide +kernel, by decide +kernel⟩
abbrev s_is_meeting : Stmt := topS 14
abbrev N_is_meeting : List Str := ["levels", "thing", "least", "most", "last", "pair"]
theorem sc_is_meeting : FnScope N_is_meeting ["levels", "thing", "least", "most"] (defScope s_is_meeting) := ⟨rfl, rfl, rfl, by decide +kernel, rfl, by decide +kernel, by decide +kernel⟩
abbrev s_rows_in : Stmt := topS 15
abbrev N_rows_in : List Str := ["levels", "found", "level"]
theorem sc_rows_in : FnScope N_rows_in ["levels"] (defScope s_rows_in) := ⟨rfl, rfl, rfl, by decide +kernel, rfl, by decide +kernel, by decide +kernel⟩
abbrev s_is_book : Stmt := topS 16
abbrev N_is_book : List Str := ["thing", "levels", "bans", "level", "ban"]
theorem sc_is_book : FnScope N_is_book ["thing"] (defScope s_is_book) := ⟨rfl, rfl, rfl, by decide +kernel, rfl, by decide +kernel, by decide +kernel⟩
abbrev s_checked : Stmt := topS 17
abbrev N_checked : List Str := ["book"]
theorem sc_checked : FnScope N_checked ["book"] (defScope s_checked) := ⟨rfl, rfl, rfl, by decide +kernel, rfl, by decide +kernel, by decide +kernel⟩
abbrev s_look_strength : Stmt := topS 18
abbrev N_look_strength : List Str := ["book", "strength"]
theorem sc_look_strength : FnScope N_look_strength ["book", "strength"] (defScope s_look_strength) := ⟨rfl, rfl, rfl, by decide +kernel, rfl, by decide +kernel, by decide +kernel⟩
abbrev s_meets : Stmt := topS 19
abbrev N_meets : List Str := ["test", "meeting", "pair"]
theorem sc_meets : FnScope N_meets ["test", "meeting"] (defScope s_meets) := ⟨rfl, rfl, rfl, by decide +kernel, rfl, by decide +kernel, by decide +kernel⟩
abbrev s_is_allowed : Stmt := topS 20
abbrev N_is_allowed : List Str := ["book", "test", "ban"]
theorem sc_is_allowed : FnScope N_is_allowed ["book", "test"] (defScope s_is_allowed) := ⟨rfl, rfl, rfl, by decide +kernel, rfl, by decide +kernel, by decide +kernel⟩
abbrev s_rows_of : Stmt := topS 21
abbrev N_rows_of : List Str := ["levels", "found", "level", "longer", "row", "setting"]
theorem sc_rows_of : FnScope N_rows_of ["levels"] (defScope s_rows_of) := ⟨rfl, rfl, rfl, by decide +kernel, rfl, by decide +kernel, by decide +kernel⟩
abbrev s_tests_of : Stmt := topS 22
abbrev N_tests_of : List Str := ["book", "row"]
theorem sc_tests_of : FnScope N_tests_of ["book"] (defScope s_tests_of) := ⟨rfl, rfl, rfl, by decide +kernel, rfl, by decide +kernel, by decide +kernel⟩
abbrev s_is_row : Stmt := topS 23
abbrev N_is_row : List Str := ["levels", "thing", "at"]
theorem sc_is_row : FnScope N_is_row ["levels", "thing"] (defScope s_is_row) := ⟨rfl, rfl, rfl, by decide +kernel, rfl, by decide +kernel, by decide +kernel⟩
abbrev s_look_tests : Stmt := topS 24
abbrev N_look_tests : List Str := ["book", "tests", "at", "test"]
theorem sc_look_tests : FnScope N_look_tests ["book", "tests"] (defScope s_look_tests) := ⟨rfl, rfl, rfl, by decide +kernel, rfl, by decide +kernel, by decide +kernel⟩
abbrev s_chosen : Stmt := topS 26
abbrev N_chosen : List Str := ["many", "least", "some", "found", "first", "rest"]
theorem sc_chosen : FnScope N_chosen ["many", "least", "some"] (defScope s_chosen) := ⟨rfl, rfl, rfl, by decide +kernel, rfl, by decide +kernel, by decide +kernel⟩
abbrev s_meetings_of : Stmt := topS 27
abbrev N_meetings_of : List Str := ["levels", "strength", "found", "things", "rows", "thing", "longer", "row", "setting"]
theorem sc_meetings_of : FnScope N_meetings_of ["levels", "strength"] (defScope s_meetings_of) := ⟨rfl, rfl, rfl, by decide +kernel, rfl, by decide +kernel, by decide +kernel⟩
abbrev s_all_meetings : Stmt := topS 28
abbrev N_all_meetings : List Str := ["book", "strength"]
theorem sc_all_meetings : FnScope N_all_meetings ["book", "strength"] (defScope s_all_meetings) := ⟨rfl, rfl, rfl, by decide +kernel, rfl, by decide +kernel, by decide +kernel⟩
abbrev s_possible_of : Stmt := topS 29
abbrev N_possible_of : List Str := ["book", "strength", "tests", "one", "test"]
theorem sc_possible_of : FnScope N_possible_of ["book", "strength"] (defScope s_possible_of) := ⟨rfl, rfl, rfl, by decide +kernel, rfl, by decide +kernel, by decide +kernel⟩
abbrev s_possible : Stmt := topS 30
abbrev N_possible : List Str := ["book", "strength"]
theorem sc_possible : FnScope N_possible ["book", "strength"] (defScope s_possible) := ⟨rfl, rfl, rfl, by decide +kernel, rfl, by decide +kernel, by decide +kernel⟩
abbrev s_impossible : Stmt := topS 31
abbrev N_impossible : List Str := ["book", "strength", "some", "one"]
theorem sc_impossible : FnScope N_impossible ["book", "strength"] (defScope s_impossible) := ⟨rfl, rfl, rfl, by decide +kernel, rfl, by decide +kernel, by decide +kernel⟩
abbrev s_look_cover : Stmt := topS 33
abbrev N_look_cover : List Str := ["book", "strength", "tests"]
theorem sc_look_cover : FnScope N_look_cover ["book", "strength", "tests"] (defScope s_look_cover) := ⟨rfl, rfl, rfl, by decide +kernel, rfl, by decide +kernel, by decide +kernel⟩
abbrev s_unmet : Stmt := topS 34
abbrev N_unmet : List Str := ["some", "tests", "one", "test"]
theorem sc_unmet : FnScope N_unmet ["some", "tests"] (defScope s_unmet) := ⟨rfl, rfl, rfl, by decide +kernel, rfl, by decide +kernel, by decide +kernel⟩
abbrev s_missing : Stmt := topS 35
abbrev N_missing : List Str := ["book", "strength", "tests"]
theorem sc_missing : FnScope N_missing ["book", "strength", "tests"] (defScope s_missing) := ⟨rfl, rfl, rfl, by decide +kernel, rfl, by decide +kernel, by decide +kernel⟩
abbrev s_is_cover : Stmt := topS 36
abbrev N_is_cover : List Str := ["book", "strength", "tests"]
theorem sc_is_cover : FnScope N_is_cover ["book", "strength", "tests"] (defScope s_is_cover) := ⟨rfl, rfl, rfl, by decide +kernel, rfl, by decide +kernel, by decide +kernel⟩
abbrev s_without : Stmt := topS 37
abbrev N_without : List Str := ["tests", "at"]
theorem sc_without : FnScope N_without ["tests", "at"] (defScope s_without) := ⟨rfl, rfl, rfl, by decide +kernel, rfl, by decide +kernel, by decide +kernel⟩
abbrev s_needless : Stmt := topS 38
abbrev N_needless : List Str := ["book", "strength", "tests", "left", "some", "at"]
theorem sc_needless : FnScope N_needless ["book", "strength", "tests"] (defScope s_needless) := ⟨rfl, rfl, rfl, by decide +kernel, rfl, by decide +kernel, by decide +kernel⟩
abbrev s_trimmed_of : Stmt := topS 39
abbrev N_trimmed_of : List Str := ["some", "tests", "found", "left", "at"]
theorem sc_trimmed_of : FnScope N_trimmed_of ["some", "tests"] (defScope s_trimmed_of) := ⟨rfl, rfl, rfl, by decide +kernel, rfl, by decide +kernel, by decide +kernel⟩
abbrev s_trimmed : Stmt := topS 40
abbrev N_trimmed : List Str := ["book", "strength", "tests"]
theorem sc_trimmed : FnScope N_trimmed ["book", "strength", "tests"] (defScope s_trimmed) := ⟨rfl, rfl, rfl, by decide +kernel, rfl, by decide +kernel, by decide +kernel⟩
abbrev s_new_met : Stmt := topS 41
abbrev N_new_met : List Str := ["some", "test", "one"]
theorem sc_new_met : FnScope N_new_met ["some", "test"] (defScope s_new_met) := ⟨rfl, rfl, rfl, by decide +kernel, rfl, by decide +kernel, by decide +kernel⟩
abbrev s_in_order : Stmt := topS 42
abbrev N_in_order : List Str := ["book", "strength", "tests", "left", "rest", "found", "test", "counts"]
theorem sc_in_order : FnScope N_in_order ["book", "strength", "tests"] (defScope s_in_order) := ⟨rfl, rfl, rfl, by decide +kernel, rfl, by decide +kernel, by decide +kernel⟩
abbrev s_filled : Stmt := topS 44
abbrev N_filled : List Str := ["book", "some", "tests", "found", "left", "every", "test", "counts"]
theorem sc_filled : FnScope N_filled ["book", "some", "tests"] (defScope s_filled) := ⟨rfl, rfl, rfl, by decide +kernel, rfl, by decide +kernel, by decide +kernel⟩
abbrev s_built : Stmt := topS 45
abbrev N_built : List Str := ["book", "strength", "some"]
theorem sc_built : FnScope N_built ["book", "strength"] (defScope s_built) := ⟨rfl, rfl, rfl, by decide +kernel, rfl, by decide +kernel, by decide +kernel⟩
abbrev s_look_results : Stmt := topS 47
abbrev N_look_results : List Str := ["book", "strength", "tests", "results", "one"]
theorem sc_look_results : FnScope N_look_results ["book", "strength", "tests", "results"] (defScope s_look_results) := ⟨rfl, rfl, rfl, by decide +kernel, rfl, by decide +kernel, by decide +kernel⟩
abbrev s_results_by : Stmt := topS 48
abbrev N_results_by : List Str := ["meeting", "tests", "test"]
theorem sc_results_by : FnScope N_results_by ["meeting", "tests"] (defScope s_results_by) := ⟨rfl, rfl, rfl, by decide +kernel, rfl, by decide +kernel, by decide +kernel⟩
abbrev s_suspects_of : Stmt := topS 49
abbrev N_suspects_of : List Str := ["book", "strength", "tests", "results", "one"]
theorem sc_suspects_of : FnScope N_suspects_of ["book", "strength", "tests", "results"] (defScope s_suspects_of) := ⟨rfl, rfl, rfl, by decide +kernel, rfl, by decide +kernel, by decide +kernel⟩
abbrev s_suspects : Stmt := topS 50
abbrev N_suspects : List Str := ["book", "strength", "tests", "results"]
theorem sc_suspects : FnScope N_suspects ["book", "strength", "tests", "results"] (defScope s_suspects) := ⟨rfl, rfl, rfl, by decide +kernel, rfl, by decide +kernel, by decide +kernel⟩
abbrev s_blurred : Stmt := topS 51
abbrev N_blurred : List Str := ["book", "strength", "tests", "groups", "one", "key"]
theorem sc_blurred : FnScope N_blurred ["book", "strength", "tests"] (defScope s_blurred) := ⟨rfl, rfl, rfl, by decide +kernel, rfl, by decide +kernel, by decide +kernel⟩
abbrev s_next_test : Stmt := topS 52
abbrev N_next_test : List Str := ["book", "strength", "tests", "results", "some", "best", "test", "one", "many", "worst"]
theorem sc_next_test : FnScope N_next_test ["book", "strength", "tests", "results"] (defScope s_next_test) := ⟨rfl, rfl, rfl, by decide +kernel, rfl, by decide +kernel, by decide +kernel⟩
abbrev s_most_looked : Stmt := topS 53
abbrev N_most_looked : List Str := ["book", "strength", "tests", "most", "one", "asked", "test"]
theorem sc_most_looked : FnScope N_most_looked ["book", "strength", "tests"] (defScope s_most_looked) := ⟨rfl, rfl, rfl, by decide +kernel, rfl, by decide +kernel, by decide +kernel⟩
abbrev s_look_small : Stmt := topS 57
abbrev N_look_small : List Str := ["book", "strength"]
theorem sc_look_small : FnScope N_look_small ["book", "strength"] (defScope s_look_small) := ⟨rfl, rfl, rfl, by decide +kernel, rfl, by decide +kernel, by decide +kernel⟩
abbrev s_fewest : Stmt := topS 58
abbrev N_fewest : List Str := ["book", "strength", "yard", "many", "found"]
theorem sc_fewest : FnScope N_fewest ["book", "strength"] (defScope s_fewest) := ⟨rfl, rfl, rfl, by decide +kernel, rfl, by decide +kernel, by decide +kernel⟩
abbrev s_apart : Stmt := topS 59
abbrev N_apart : List Str := ["book", "strength"]
theorem sc_apart : FnScope N_apart ["book", "strength"] (defScope s_apart) := ⟨rfl, rfl, rfl, by decide +kernel, rfl, by decide +kernel, by decide +kernel⟩
abbrev s_look_rows : Stmt := topS 61
abbrev N_look_rows : List Str := ["tests", "at", "test", "one"]
theorem sc_look_rows : FnScope N_look_rows ["tests"] (defScope s_look_rows) := ⟨rfl, rfl, rfl, by decide +kernel, rfl, by decide +kernel, by decide +kernel⟩
abbrev s_kept : Stmt := topS 62
abbrev N_kept : List Str := ["book", "strength", "tests", "stay", "test", "some", "found", "at"]
theorem sc_kept : FnScope N_kept ["book", "strength", "tests"] (defScope s_kept) := ⟨rfl, rfl, rfl, by decide +kernel, rfl, by decide +kernel, by decide +kernel⟩
abbrev s_look_many : Stmt := topS 65
abbrev N_look_many : List Str := ["many"]
theorem sc_look_many : FnScope N_look_many ["many"] (defScope s_look_many) := ⟨rfl, rfl, rfl, by decide +kernel, rfl, by decide +kernel, by decide +kernel⟩
abbrev s_tree : Stmt := topS 66
abbrev N_tree : List Str := ["yard", "left", "many", "one", "hardest", "rows", "test"]
theorem sc_tree : FnScope N_tree ["yard", "left", "many"] (defScope s_tree) := ⟨rfl, rfl, rfl, by decide +kernel, rfl, by decide +kernel, by decide +kernel⟩
abbrev s_paper : Stmt := topS 67
abbrev N_paper : List Str := ["book", "strength", "many", "yard", "some"]
theorem sc_paper : FnScope N_paper ["book", "strength", "many"] (defScope s_paper) := ⟨rfl, rfl, rfl, by decide +kernel, rfl, by decide +kernel, by decide +kernel⟩
abbrev s_holds_apart : Stmt := topS 68
abbrev N_holds_apart : List Str := ["book", "strength", "many", "thing", "one", "tests", "at", "test", "some", "other"]
theorem sc_holds_apart : FnScope N_holds_apart ["book", "strength", "many", "thing"] (defScope s_holds_apart) := ⟨rfl, rfl, rfl, by decide +kernel, rfl, by decide +kernel, by decide +kernel⟩
abbrev s_holds_tree : Stmt := topS 69
abbrev N_holds_tree : List Str := ["book", "strength", "taken", "many", "thing", "test", "due", "row"]
theorem sc_holds_tree : FnScope N_holds_tree ["book", "strength", "taken", "many", "thing"] (defScope s_holds_tree) := ⟨rfl, rfl, rfl, by decide +kernel, rfl, by decide +kernel, by decide +kernel⟩
abbrev s_is_paper : Stmt := topS 70
abbrev N_is_paper : List Str := ["book", "strength", "many", "thing"]
theorem sc_is_paper : FnScope N_is_paper ["book", "strength", "many", "thing"] (defScope s_is_paper) := ⟨rfl, rfl, rfl, by decide +kernel, rfl, by decide +kernel, by decide +kernel⟩
abbrev s_l_cell : Stmt := topS 72
abbrev N_l_cell : List Str := ["_law_script", "_law_k"]
theorem sc_l_cell : FnScope N_l_cell ["_law_script", "_law_k"] (defScope s_l_cell) := ⟨rfl, rfl, rfl, by decide +kernel, rfl, by decide +kernel, by decide +kernel⟩
abbrev s_l_mix : Stmt := topS 73
abbrev N_l_mix : List Str := ["_law_cell_here", "_law_prime", "_law_many"]
theorem sc_l_mix : FnScope N_l_mix ["_law_cell_here", "_law_prime", "_law_many"] (defScope s_l_mix) := ⟨rfl, rfl, rfl, by decide +kernel, rfl, by decide +kernel, by decide +kernel⟩
abbrev s_l_book : Stmt := topS 74
abbrev N_l_book : List Str := ["_law_script", "_law_at", "_law_cell_here", "_law_many", "_law_levels", "_law_k", "_law_most", "_law_bans", "_law_seed", "_law_thing", "_law_things"]
theorem sc_l_book : FnScope N_l_book ["_law_script", "_law_at"] (defScope s_l_book) := ⟨rfl, rfl, rfl, by decide +kernel, rfl, by decide +kernel, by decide +kernel⟩
abbrev s_l_rows : Stmt := topS 75
abbrev N_l_rows : List Str := ["_law_levels", "_law_found", "_law_level", "_law_more_here", "_law_row", "_law_setting"]
theorem sc_l_rows : FnScope N_l_rows ["_law_levels"] (defScope s_l_rows) := ⟨rfl, rfl, rfl, by decide +kernel, rfl, by decide +kernel, by decide +kernel⟩
abbrev s_l_meets : Stmt := topS 76
abbrev N_l_meets : List Str := ["_law_test", "_law_meeting", "_law_pair"]
theorem sc_l_meets : FnScope N_l_meets ["_law_test", "_law_meeting"] (defScope s_l_meets) := ⟨rfl, rfl, rfl, by decide +kernel, rfl, by decide +kernel, by decide +kernel⟩
abbrev s_l_tests : Stmt := topS 77
abbrev N_l_tests : List Str := ["_law_book_here", "_law_found", "_law_row", "_law_ban"]
theorem sc_l_tests : FnScope N_l_tests ["_law_book_here"] (defScope s_l_tests) := ⟨rfl, rfl, rfl, by decide +kernel, rfl, by decide +kernel, by decide +kernel⟩
abbrev s_l_drawn : Stmt := topS 78
abbrev N_l_drawn : List Str := ["_law_script", "_law_at", "_law_book_here", "_law_most", "_law_tests_here", "_law_found", "_law_k"]
theorem sc_l_drawn : FnScope N_l_drawn ["_law_script", "_law_at", "_law_book_here", "_law_most"] (defScope s_l_drawn) := ⟨rfl, rfl, rfl, by decide +kernel, rfl, by decide +kernel, by decide +kernel⟩
abbrev s_l_by_strength : Stmt := topS 79
abbrev N_l_by_strength : List Str := ["_law_way", "_law_book_here", "_law_bad"]
theorem sc_l_by_strength : FnScope N_l_by_strength ["_law_way", "_law_book_here", "_law_bad"] (defScope s_l_by_strength) := ⟨rfl, rfl, rfl, by decide +kernel, rfl, by decide +kernel, by decide +kernel⟩
abbrev s_l_more : Stmt := topS 80
abbrev N_l_more : List Str := ["_law_way", "_law_book_here", "_law_bad"]
theorem sc_l_more : FnScope N_l_more ["_law_way", "_law_book_here", "_law_bad"] (defScope s_l_more) := ⟨rfl, rfl, rfl, by decide +kernel, rfl, by decide +kernel, by decide +kernel⟩
abbrev s_l_by_tests : Stmt := topS 81
abbrev N_l_by_tests : List Str := ["_law_way", "_law_book_here", "_law_bad"]
theorem sc_l_by_tests : FnScope N_l_by_tests ["_law_way", "_law_book_here", "_law_bad"] (defScope s_l_by_tests) := ⟨rfl, rfl, rfl, by decide +kernel, rfl, by decide +kernel, by decide +kernel⟩
abbrev s_l_told : Stmt := topS 82
abbrev N_l_told : List Str := ["_law_sort", "_law_way", "_law_book_here", "_law_bad", "e"]
theorem sc_l_told : FnScope N_l_told ["_law_sort", "_law_way", "_law_book_here", "_law_bad"] (defScope s_l_told) := ⟨rfl, rfl, rfl, by decide +kernel, rfl, by decide +kernel, by decide +kernel⟩
abbrev s_law : Stmt := topS 83
abbrev N_law : List Str := ["_law_script", "_law_book_here", "_law_odd", "_law_sort", "_law_ways", "_law_way", "_law_tests_here", "_law_at", "_law_some", "_law_row", "_law_bad", "_law_due"]
theorem sc_law : FnScope N_law ["_law_script"] (defScope s_law) := ⟨rfl, rfl, rfl, by decide +kernel, rfl, by decide +kernel, by decide +kernel⟩
structure Names (K : PySem.W.Frag) (mg : Str → Option Value) : Prop where
  n_ValueError : mg "ValueError" = none
  n_bool : mg "bool" = none
  n_enumerate : mg "enumerate" = none
  n_int : mg "int" = none
  n_isinstance : mg "isinstance" = none
  n_len : mg "len" = none
  n_list : mg "list" = none
  n_max : mg "max" = none
  n_min : mg "min" = none
  n_range : mg "range" = none
  n_sorted : mg "sorted" = none
  n_str : mg "str" = none
  n_tuple : mg "tuple" = none
  k_MOST_BANS : ∃ t, mg "MOST_BANS" = some (.int 12 t)
  k_MOST_ROWS : ∃ t, mg "MOST_ROWS" = some (.int 400 t)
  k_MOST_SETTINGS : ∃ t, mg "MOST_SETTINGS" = some (.int 4 t)
  k_MOST_SMALL : ∃ t, mg "MOST_SMALL" = some (.int 24 t)
  k_MOST_TESTS : ∃ t, mg "MOST_TESTS" = some (.int 30 t)
  k_MOST_THINGS : ∃ t, mg "MOST_THINGS" = some (.int 6 t)
  ex : ExK K mg ns
structure Defs (K : PySem.W.Frag) (mg : Str → Option Value) : Prop where
  d_is_within : Std K mg "is_within" s_is_within ["thing", "low", "high"]
  d_is_meeting : Std K mg "is_meeting" s_is_meeting ["levels", "thing", "least", "most"]
  d_rows_in : Std K mg "rows_in" s_rows_in ["levels"]
  d_is_book : Std K mg "is_book" s_is_book ["thing"]
  d_checked : Std K mg "checked" s_checked ["book"]
  d_look_strength : Std K mg "look_strength" s_look_strength ["book", "strength"]
  d_meets : Std K mg "meets" s_meets ["test", "meeting"]
  d_is_allowed : Std K mg "is_allowed" s_is_allowed ["book", "test"]
  d_rows_of : Std K mg "rows_of" s_rows_of ["levels"]
  d_tests_of : Std K mg "tests_of" s_tests_of ["book"]
  d_is_row : Std K mg "is_row" s_is_row ["levels", "thing"]
  d_look_tests : Std K mg "look_tests" s_look_tests ["book", "tests"]
  d_chosen : Std K mg "chosen" s_chosen ["many", "least", "some"]
  d_meetings_of : Std K mg "meetings_of" s_meetings_of ["levels", "strength"]
  d_all_meetings : Std K mg "all_meetings" s_all_meetings ["book", "strength"]
  d_possible_of : Std K mg "possible_of" s_possible_of ["book", "strength"]
  d_possible : Std K mg "possible" s_possible ["book", "strength"]
  d_impossible : Std K mg "impossible" s_impossible ["book", "strength"]
  d_look_cover : Std K mg "look_cover" s_look_cover ["book", "strength", "tests"]
  d_unmet : Std K mg "unmet" s_unmet ["some", "tests"]
  d_missing : Std K mg "missing" s_missing ["book", "strength", "tests"]
  d_is_cover : Std K mg "is_cover" s_is_cover ["book", "strength", "tests"]
  d_without : Std K mg "without" s_without ["tests", "at"]
  d_needless : Std K mg "needless" s_needless ["book", "strength", "tests"]
  d_trimmed_of : Std K mg "trimmed_of" s_trimmed_of ["some", "tests"]
  d_trimmed : Std K mg "trimmed" s_trimmed ["book", "strength", "tests"]
  d_new_met : Std K mg "new_met" s_new_met ["some", "test"]
  d_in_order : Std K mg "in_order" s_in_order ["book", "strength", "tests"]
  d_filled : Std K mg "filled" s_filled ["book", "some", "tests"]
  d_built : Std K mg "built" s_built ["book", "strength"]
  d_look_results : Std K mg "look_results" s_look_results ["book", "strength", "tests", "results"]
  d_results_by : Std K mg "results_by" s_results_by ["meeting", "tests"]
  d_suspects_of : Std K mg "suspects_of" s_suspects_of ["book", "strength", "tests", "results"]
  d_suspects : Std K mg "suspects" s_suspects ["book", "strength", "tests", "results"]
  d_blurred : Std K mg "blurred" s_blurred ["book", "strength", "tests"]
  d_next_test : Std K mg "next_test" s_next_test ["book", "strength", "tests", "results"]
  d_most_looked : Std K mg "most_looked" s_most_looked ["book", "strength", "tests"]
  d_look_small : Std K mg "look_small" s_look_small ["book", "strength"]
  d_fewest : Std K mg "fewest" s_fewest ["book", "strength"]
  d_apart : Std K mg "apart" s_apart ["book", "strength"]
  d_look_rows : Std K mg "look_rows" s_look_rows ["tests"]
  d_kept : Std K mg "kept" s_kept ["book", "strength", "tests"]
  d_look_many : Std K mg "look_many" s_look_many ["many"]
  d_tree : Std K mg "tree" s_tree ["yard", "left", "many"]
  d_paper : Std K mg "paper" s_paper ["book", "strength", "many"]
  d_holds_apart : Std K mg "holds_apart" s_holds_apart ["book", "strength", "many", "thing"]
  d_holds_tree : Std K mg "holds_tree" s_holds_tree ["book", "strength", "taken", "many", "thing"]
  d_is_paper : Std K mg "is_paper" s_is_paper ["book", "strength", "many", "thing"]
  d_l_cell : Std K mg "_law_cell" s_l_cell ["_law_script", "_law_k"]
  d_l_mix : Std K mg "_law_mix" s_l_mix ["_law_cell_here", "_law_prime", "_law_many"]
  d_l_book : Std K mg "_law_book" s_l_book ["_law_script", "_law_at"]
  d_l_rows : Std K mg "_law_rows" s_l_rows ["_law_levels"]
  d_l_meets : Std K mg "_law_meets" s_l_meets ["_law_test", "_law_meeting"]
  d_l_tests : Std K mg "_law_tests" s_l_tests ["_law_book_here"]
  d_l_drawn : Std K mg "_law_drawn" s_l_drawn ["_law_script", "_law_at", "_law_book_here", "_law_most"]
  d_l_by_strength : Std K mg "_law_by_strength" s_l_by_strength ["_law_way", "_law_book_here", "_law_bad"]
  d_l_more : Std K mg "_law_more" s_l_more ["_law_way", "_law_book_here", "_law_bad"]
  d_l_by_tests : Std K mg "_law_by_tests" s_l_by_tests ["_law_way", "_law_book_here", "_law_bad"]
  d_l_told : Std K mg "_law_told" s_l_told ["_law_sort", "_law_way", "_law_book_here", "_law_bad"]
  d_law : Std K mg "law" s_law ["_law_script"]
  bad : ∃ fd, Fun K "__init__" "BadTests.__init__" s_bad (He.ma K (gaS K "BadTests") "__init__") fd ∧ Binds K fd ["self", "text", "at"] []
section
variable [Wd] {P : Program} {w : World} {K : PySem.W.Frag} {mg : Str → Option Value} {base : Heap}
theorem D_bad (T : Names K mg) (B : ∃ fd, Fun K "__init__" "BadTests.__init__" s_bad (He.ma K (gaS K "BadTests") "__init__") fd ∧ Binds K fd ["self", "text", "at"] []) : BadI P w K mg base 1 := by
  obtain ⟨fd, F, hb⟩ := B
  refine ⟨fd, F.okX sc_bad (fun vs H Q E h => by obtain ⟨a, m, n, rfl, _⟩ := h; rfl) (fun cdv A outer s H vs Q E hr hsp => ?_), hb⟩
  obtain ⟨a, m, n, rfl, ha, q⟩ := hsp
  have G := T.ex.bad (by decide)
  refine ⟨_, pss_cons (ps_expr (pe_cinit (by rfl) (T.ex.mg "TestError" (by decide)) G.sg G.rd G.vi (pa_cons (pe_var (i := 0) rfl (.inl rfl)) (pa_cons (pe_var (i := 1) rfl (.inl rfl)) pa_nil))))
    (pss_one (ps_ost (pe_var (i := 0) rfl (.inl rfl)) (pe_var (i := 2) rfl (.inl rfl)))), ?_⟩
  refine ⟨_, rfl, _, rfl, a, gaS K "BadTests", [.str m], rfl, Nat.le_of_ble_eq_true rfl, T.ex.oex (by decide), ha, ?_⟩
  exact ⟨_, rfl, _, rfl, a, gaS K "BadTests", rfl, T.ex.oex (by decide), G.no, .inl ⟨ha, fun d hd hne => q d hd hne⟩⟩
theorem D_is_within (hw0 : Wd.w = w) (T : Names K mg) (F : Std K mg "is_within" s_is_within ["thing", "low", "high"]) : DefD P w K mg base (zOf K ns) 1 "is_within" ["thing", "low", "high"] DM.f_is_within :=
  def_D hw0 F sc_is_within fun f cdv A' outer s H E A hZ hn hw hr tk =>
    (ss_one (s_ret (d_and (d_isi T.n_isinstance (b_v 0) (pe_bltn (by rfl) T.n_int (by decide +kernel) rfl)) (d_and (d_not (b_d (d_isi T.n_isinstance (b_v 0) (pe_bltn (by rfl) T.n_bool (by decide +kernel) rfl)))) (d_one (d_chain o_le o_le (b_v 1) (b_v 0) (b_v 2)))))))
theorem D_is_meeting (hw0 : Wd.w = w) (T : Names K mg) (F : Std K mg "is_meeting" s_is_meeting ["levels", "thing", "least", "most"]) (c_is_within : DefD P w K mg base (zOf K ns) 1 "is_within" ["thing", "low", "high"] DM.f_is_within) : DefD P w K mg base (zOf K ns) 2 "is_meeting" ["levels", "thing", "least", "most"] DM.f_is_meeting :=
  def_D hw0 F sc_is_meeting fun f cdv A' outer s H E A hZ hn hw hr tk =>
    (ss_cons (s_if (PW.pt (t_or (t_not (t_val (b_d (d_isi T.n_isinstance (b_v 1) (pe_bltn (by rfl) T.n_tuple (by decide +kernel) rfl))))) (t_or1 (t_not (t_chain o_le o_le (b_v 2) (b_d (d_callB c_len (by rfl) T.n_len (by decide +kernel) (bs_cons (b_v 1) bs_nil))) (b_v 3)))))) (ss_one (s_ret d_bl)) ss_nil)
    (ss_cons (s_set 4 sc_is_meeting.nd (d_neg (b_d d_int)))
    (ss_cons (s_for (passes_of rfl) rfl (i_seqF (d_v 1)) (pg_name (i := 5) sc_is_meeting.nd rfl (by first | exact Or.inl rfl | exact Or.inr rfl)) tgs_name (ss_cons (s_if (PW.pt (t_or (t_not (t_val (b_d (d_isi T.n_isinstance (b_v 5) (pe_bltn (by rfl) T.n_tuple (by decide +kernel) rfl))))) (t_or (t_cmp (o_ne (r64 hr)) (b_d (d_callB c_len (by rfl) T.n_len (by decide +kernel) (bs_cons (b_v 5) bs_nil))) (b_d d_int) (nomark _)) (t_or1 (t_not (t_val (b_d (d_call (c_is_within.z hZ) tk (hr.mono (by omega)) (as_cons (d_ix o_ix (b_v 5) (b_d d_int) (fun _ _ => rfl)) (as_cons (d_op o_add (b_v 4) (b_d d_int)) (as_cons (d_op o_sub (b_d (d_callB c_len (by rfl) T.n_len (by decide +kernel) (bs_cons (b_v 0) bs_nil))) (b_d d_int)) as_nil))))))))))) (ss_one (s_ret d_bl)) ss_nil)
    (ss_cons (s_if (t_not (t_val (b_d (d_call (c_is_within.z hZ) tk (hr.mono (by omega)) (as_cons (d_ix o_ix (b_v 5) (b_d d_int) (fun _ _ => rfl)) (as_cons d_int (as_cons (d_op o_sub (b_d (d_ix o_ix (b_v 0) (b_d (d_ix o_ix (b_v 5) (b_d d_int) (fun _ _ => rfl))) (fun _ _ => rfl))) (b_d d_int)) as_nil))))))) (ss_one (s_ret d_bl)) ss_nil)
    (ss_one (s_set 4 sc_is_meeting.nd (d_ix o_ix (b_v 5) (b_d d_int) (fun _ _ => rfl)))))))
    (ss_one (s_ret d_bl)))))
theorem D_rows_in (hw0 : Wd.w = w) (T : Names K mg) (F : Std K mg "rows_in" s_rows_in ["levels"]) : DefD P w K mg base (zOf K ns) 1 "rows_in" ["levels"] DM.f_rows_in :=
  def_D hw0 F sc_rows_in fun f cdv A' outer s H E A hZ hn hw hr tk =>
    (ss_cons (s_set 1 sc_rows_in.nd d_int)
    (ss_cons (s_for (passes_of rfl) rfl (i_seqF (d_v 0)) (pg_name (i := 2) sc_rows_in.nd rfl (by first | exact Or.inl rfl | exact Or.inr rfl)) tgs_name (ss_one (s_set 1 sc_rows_in.nd (d_op o_mul (b_v 1) (b_v 2)))))
    (ss_one (s_ret (d_v 1)))))
theorem D_is_book (hw0 : Wd.w = w) (T : Names K mg) (F : Std K mg "is_book" s_is_book ["thing"]) (c_is_within : DefD P w K mg base (zOf K ns) 1 "is_within" ["thing", "low", "high"] DM.f_is_within) (c_rows_in : DefD P w K mg base (zOf K ns) 1 "rows_in" ["levels"] DM.f_rows_in) (c_is_meeting : DefD P w K mg base (zOf K ns) 2 "is_meeting" ["levels", "thing", "least", "most"] DM.f_is_meeting) : DefD P w K mg base (zOf K ns) 3 "is_book" ["thing"] DM.f_is_book :=
  def_D hw0 F sc_is_book fun f cdv A' outer s H E A hZ hn hw hr tk =>
    (ss_cons (s_if (PW.pt (t_or (t_not (t_val (b_d (d_isi T.n_isinstance (b_v 0) (pe_bltn (by rfl) T.n_tuple (by decide +kernel) rfl))))) (t_or (t_cmp (o_ne (r64 hr)) (b_d (d_callB c_len (by rfl) T.n_len (by decide +kernel) (bs_cons (b_v 0) bs_nil))) (b_d d_int) (nomark _)) (t_or1 (t_not (t_val (b_d (d_isi T.n_isinstance (b_d (d_ix o_ix (b_v 0) (b_d d_int) (fun _ _ => rfl))) (pe_bltn (by rfl) T.n_tuple (by decide +kernel) rfl))))))))) (ss_one (s_ret d_bl)) ss_nil)
    (ss_cons (s_tgt (d_v 0) (pg_tup rfl (pgs_cons (pg_name (i := 1) sc_is_book.nd rfl (by first | exact Or.inl rfl | exact Or.inr rfl)) (pgs_cons (pg_name (i := 2) sc_is_book.nd rfl (by first | exact Or.inl rfl | exact Or.inr rfl)) pgs_nil))) tgs_pair)
    (ss_cons (s_if (PW.pt (t_or (t_not (t_chain o_le o_le (b_d d_int) (b_d (d_callB c_len (by rfl) T.n_len (by decide +kernel) (bs_cons (b_v 1) bs_nil))) (b_d (d_kint T.k_MOST_THINGS)))) (t_or1 (t_val (b_d (d_o (o_lc (own := [("level", 3)]) rfl sc_is_book.nd (i_seq (b_v 1)) (blkOk_by (own := [("level", 3)]) (N := N_is_book) (sc := defScope s_is_book) (by decide +kernel)) (fun _ _ _ _ _ => (pg_name (i := 3) sc_is_book.nd rfl (by first | exact Or.inl rfl | exact Or.inr rfl))) tgs_name (fun _ _ _ _ _ => (ts_one (t_not (t_val (b_d (d_call (c_is_within.z hZ) takesW (hr.mono (by omega)) (as_cons (d_v 3) (as_cons d_int (as_cons (d_kint T.k_MOST_SETTINGS) as_nil))))))))) (fun _ _ _ _ _ => (d_v 3))))))))) (ss_one (s_ret d_bl)) ss_nil)
    (ss_cons (s_if (PW.pt (t_or (t_cmp o_gt (b_d (d_call (c_rows_in.z hZ) tk (hr.mono (by omega)) (as_cons (d_v 1) as_nil))) (b_d (d_kint T.k_MOST_ROWS)) (nomark _)) (t_or (t_not (t_val (b_d (d_isi T.n_isinstance (b_v 2) (pe_bltn (by rfl) T.n_tuple (by decide +kernel) rfl))))) (t_or1 (t_cmp o_gt (b_d (d_callB c_len (by rfl) T.n_len (by decide +kernel) (bs_cons (b_v 2) bs_nil))) (b_d (d_kint T.k_MOST_BANS)) (nomark _)))))) (ss_one (s_ret d_bl)) ss_nil)
    (ss_one (s_ret (d_not (b_d (d_o (o_lc (own := [("ban", 4)]) rfl sc_is_book.nd (i_seq (b_v 2)) (blkOk_by (own := [("ban", 4)]) (N := N_is_book) (sc := defScope s_is_book) (by decide +kernel)) (fun _ _ _ _ _ => (pg_name (i := 4) sc_is_book.nd rfl (by first | exact Or.inl rfl | exact Or.inr rfl))) tgs_name (fun _ _ _ _ _ => (ts_one (t_not (t_val (b_d (d_call (c_is_meeting.z hZ) takesW (hr.mono (by omega)) (as_cons (d_v 1) (as_cons (d_v 4) (as_cons d_int (as_cons d_int as_nil)))))))))) (fun _ _ _ _ _ => (d_v 4))))))))))))
theorem D_checked (hw0 : Wd.w = w) (T : Names K mg) (F : Std K mg "checked" s_checked ["book"]) (c_is_book : DefD P w K mg base (zOf K ns) 3 "is_book" ["thing"] DM.f_is_book) : DefD P w K mg base (zOf K ns) 4 "checked" ["book"] DM.f_checked :=
  def_D hw0 F sc_checked fun f cdv A' outer s H E A hZ hn hw hr tk =>
    (ss_cons (s_if (t_not (t_val (b_d (d_call (c_is_book.z hZ) tk (hr.mono (by omega)) (as_cons (d_v 0) as_nil))))) (ss_one (s_raise "BadBook" rfl tk T.ex hZ)) ss_nil)
    (ss_one (s_ret (d_v 0))))
theorem D_look_strength (hw0 : Wd.w = w) (T : Names K mg) (F : Std K mg "look_strength" s_look_strength ["book", "strength"]) (c_checked : DefD P w K mg base (zOf K ns) 4 "checked" ["book"] DM.f_checked) (c_is_within : DefD P w K mg base (zOf K ns) 1 "is_within" ["thing", "low", "high"] DM.f_is_within) : DefD P w K mg base (zOf K ns) 5 "look_strength" ["book", "strength"] DM.f_look_strength :=
  def_D hw0 F sc_look_strength fun f cdv A' outer s H E A hZ hn hw hr tk =>
    (ss_cons (s_drop (d_call (c_checked.z hZ) tk (hr.mono (by omega)) (as_cons (d_v 0) as_nil)))
    (ss_one (s_if (t_not (t_val (b_d (d_call (c_is_within.z hZ) tk (hr.mono (by omega)) (as_cons (d_v 1) (as_cons d_int (as_cons (d_callB (c_min2 rfl) (by rfl) T.n_min (by decide +kernel) (bs_cons (b_d d_int) (bs_cons (b_d (d_callB c_len (by rfl) T.n_len (by decide +kernel) (bs_cons (b_d (d_ix o_ix (b_v 0) (b_d d_int) (fun _ _ => rfl))) bs_nil))) bs_nil))) as_nil))))))) (ss_one (s_raise "BadStrength" rfl tk T.ex hZ)) ss_nil)))
theorem D_meets (hw0 : Wd.w = w) (T : Names K mg) (F : Std K mg "meets" s_meets ["test", "meeting"]) : DefD P w K mg base (zOf K ns) 1 "meets" ["test", "meeting"] DM.f_meets :=
  def_D hw0 F sc_meets fun f cdv A' outer s H E A hZ hn hw hr tk =>
    (ss_one (s_ret (d_not (b_d (d_o (o_lc (own := [("pair", 2)]) rfl sc_meets.nd (i_seq (b_v 1)) (blkOk_by (own := [("pair", 2)]) (N := N_meets) (sc := defScope s_meets) (by decide +kernel)) (fun _ _ _ _ _ => (pg_name (i := 2) sc_meets.nd rfl (by first | exact Or.inl rfl | exact Or.inr rfl))) tgs_name (fun _ _ _ _ _ => (ts_one (t_cmp (o_ne (r64 hr)) (b_d (d_ix o_ix (b_v 0) (b_d (d_ix o_ix (b_v 2) (b_d d_int) (fun _ _ => rfl))) (fun _ _ => rfl))) (b_d (d_ix o_ix (b_v 2) (b_d d_int) (fun _ _ => rfl))) (nomark _)))) (fun _ _ _ _ _ => (d_v 2))))))))
theorem D_is_allowed (hw0 : Wd.w = w) (T : Names K mg) (F : Std K mg "is_allowed" s_is_allowed ["book", "test"]) (c_meets : DefD P w K mg base (zOf K ns) 1 "meets" ["test", "meeting"] DM.f_meets) : DefD P w K mg base (zOf K ns) 2 "is_allowed" ["book", "test"] DM.f_is_allowed :=
  def_D hw0 F sc_is_allowed fun f cdv A' outer s H E A hZ hn hw hr tk =>
    (ss_one (s_ret (d_not (b_d (d_o (o_lc (own := [("ban", 2)]) rfl sc_is_allowed.nd (i_seq (b_d (d_ix o_ix (b_v 0) (b_d d_int) (fun _ _ => rfl)))) (blkOk_by (own := [("ban", 2)]) (N := N_is_allowed) (sc := defScope s_is_allowed) (by decide +kernel)) (fun _ _ _ _ _ => (pg_name (i := 2) sc_is_allowed.nd rfl (by first | exact Or.inl rfl | exact Or.inr rfl))) tgs_name (fun _ _ _ _ _ => (ts_one (t_val (b_d (d_call (c_meets.z hZ) takesW (hr.mono (by omega)) (as_cons (d_v 1) (as_cons (d_v 2) as_nil))))))) (fun _ _ _ _ _ => (d_v 2))))))))
theorem D_rows_of (hw0 : Wd.w = w) (T : Names K mg) (F : Std K mg "rows_of" s_rows_of ["levels"]) : DefD P w K mg base (zOf K ns) 1 "rows_of" ["levels"] DM.f_rows_of :=
  def_D hw0 F sc_rows_of fun f cdv A' outer s H E A hZ hn hw hr tk =>
    (ss_cons (s_set 1 sc_rows_of.nd (d_o (o_lst (as_cons (d_tup as_nil) as_nil))))
    (ss_cons (s_for (passes_of rfl) rfl (i_seqF (d_v 0)) (pg_name (i := 2) sc_rows_of.nd rfl (by first | exact Or.inl rfl | exact Or.inr rfl)) tgs_name (ss_cons (s_setO 3 sc_rows_of.nd (o_lst as_nil))
    (ss_cons (s_for (passes_of rfl) rfl (i_seqF (d_v 1)) (pg_name (i := 4) sc_rows_of.nd rfl (by first | exact Or.inl rfl | exact Or.inr rfl)) tgs_name (ss_one (s_extend 3 (b_d (d_o (o_lc (own := [("setting", 5)]) rfl sc_rows_of.nd (ih_f (i_rng1 T.n_range (bs_cons (b_v 2) bs_nil))) (blkOk_by (own := [("setting", 5)]) (N := N_rows_of) (sc := defScope s_rows_of) (by decide +kernel)) (fun _ _ _ _ _ => (pg_name (i := 5) sc_rows_of.nd rfl (by first | exact Or.inl rfl | exact Or.inr rfl))) tgs_name (fun _ _ _ _ _ => ts_nil) (fun _ _ _ _ _ => (d_op o_add (b_v 4) (b_d (d_tup (as_cons (d_v 5) as_nil)))))))))))
    (ss_one (s_frz 3 (s_set 1 sc_rows_of.nd (d_v 3)))))))
    (ss_one (s_ret (d_v 1)))))
theorem D_tests_of (hw0 : Wd.w = w) (T : Names K mg) (F : Std K mg "tests_of" s_tests_of ["book"]) (c_rows_of : DefD P w K mg base (zOf K ns) 1 "rows_of" ["levels"] DM.f_rows_of) (c_is_allowed : DefD P w K mg base (zOf K ns) 2 "is_allowed" ["book", "test"] DM.f_is_allowed) : DefD P w K mg base (zOf K ns) 3 "tests_of" ["book"] DM.f_tests_of :=
  def_D hw0 F sc_tests_of fun f cdv A' outer s H E A hZ hn hw hr tk =>
    (ss_one (s_retO (o_lc (own := [("row", 1)]) rfl sc_tests_of.nd (i_seq (b_d (d_call (c_rows_of.z hZ) tk (hr.mono (by omega)) (as_cons (d_ix o_ix (b_v 0) (b_d d_int) (fun _ _ => rfl)) as_nil)))) (blkOk_by (own := [("row", 1)]) (N := N_tests_of) (sc := defScope s_tests_of) (by decide +kernel)) (fun _ _ _ _ _ => (pg_name (i := 1) sc_tests_of.nd rfl (by first | exact Or.inl rfl | exact Or.inr rfl))) tgs_name (fun _ _ _ _ _ => (ts_one (t_val (b_d (d_call (c_is_allowed.z hZ) takesW (hr.mono (by omega)) (as_cons (d_v 0) (as_cons (d_v 1) as_nil))))))) (fun _ _ _ _ _ => (d_v 1)))))
theorem D_is_row (hw0 : Wd.w = w) (T : Names K mg) (F : Std K mg "is_row" s_is_row ["levels", "thing"]) (c_is_within : DefD P w K mg base (zOf K ns) 1 "is_within" ["thing", "low", "high"] DM.f_is_within) : DefD P w K mg base (zOf K ns) 2 "is_row" ["levels", "thing"] DM.f_is_row :=
  def_D hw0 F sc_is_row fun f cdv A' outer s H E A hZ hn hw hr tk =>
    (ss_cons (s_if (PW.pt (t_or (t_not (t_val (b_d (d_isi T.n_isinstance (b_v 1) (pe_bltn (by rfl) T.n_tuple (by decide +kernel) rfl))))) (t_or1 (t_cmp (o_ne (r64 hr)) (b_d (d_callB c_len (by rfl) T.n_len (by decide +kernel) (bs_cons (b_v 1) bs_nil))) (b_d (d_callB c_len (by rfl) T.n_len (by decide +kernel) (bs_cons (b_v 0) bs_nil))) (nomark _))))) (ss_one (s_ret d_bl)) ss_nil)
    (ss_one (s_ret (d_not (b_d (d_o (o_lc (own := [("at", 2)]) rfl sc_is_row.nd (ih_f (i_rng1 T.n_range (bs_cons (b_d (d_callB c_len (by rfl) T.n_len (by decide +kernel) (bs_cons (b_v 0) bs_nil))) bs_nil))) (blkOk_by (own := [("at", 2)]) (N := N_is_row) (sc := defScope s_is_row) (by decide +kernel)) (fun _ _ _ _ _ => (pg_name (i := 2) sc_is_row.nd rfl (by first | exact Or.inl rfl | exact Or.inr rfl))) tgs_name (fun _ _ _ _ _ => (ts_one (t_not (t_val (b_d (d_call (c_is_within.z hZ) takesW (hr.mono (by omega)) (as_cons (d_ix o_ix (b_v 1) (b_v 2) (fun _ _ => rfl)) (as_cons d_int (as_cons (d_op o_sub (b_d (d_ix o_ix (b_v 0) (b_v 2) (fun _ _ => rfl))) (b_d d_int)) as_nil))))))))) (fun _ _ _ _ _ => (d_v 2)))))))))
theorem D_look_tests (hw0 : Wd.w = w) (T : Names K mg) (F : Std K mg "look_tests" s_look_tests ["book", "tests"]) (c_bad : BadI P w K mg base 1) (c_is_allowed : DefD P w K mg base (zOf K ns) 2 "is_allowed" ["book", "test"] DM.f_is_allowed) (c_is_row : DefD P w K mg base (zOf K ns) 2 "is_row" ["levels", "thing"] DM.f_is_row) : DefD P w K mg base (zOf K ns) 3 "look_tests" ["book", "tests"] DM.f_look_tests :=
  def_D hw0 F sc_look_tests fun f cdv A' outer s H E A hZ hn hw hr tk =>
    (ss_cons (s_if (t_not (t_val (b_d (d_isi T.n_isinstance (b_v 1) (pe_bltn (by rfl) T.n_list (by decide +kernel) rfl))))) (ss_one (s_raiseB (k := 1) rfl tk T.ex c_bad (hr.mono (by omega)) hZ d_int)) ss_nil)
    (ss_one (s_for (passes_of rfl) rfl (i_enumF T.n_enumerate (d_v 1)) (pg_tup rfl (pgs_cons (pg_name (i := 2) sc_look_tests.nd rfl (by first | exact Or.inl rfl | exact Or.inr rfl)) (pgs_cons (pg_name (i := 3) sc_look_tests.nd rfl (by first | exact Or.inl rfl | exact Or.inr rfl)) pgs_nil))) tgs_pair (ss_one (s_if (PW.pt (t_or (t_not (t_val (b_d (d_call (c_is_row.z hZ) tk (hr.mono (by omega)) (as_cons (d_ix o_ix (b_v 0) (b_d d_int) (fun _ _ => rfl)) (as_cons (d_v 3) as_nil)))))) (t_or1 (t_not (t_val (b_d (d_call (c_is_allowed.z hZ) tk (hr.mono (by omega)) (as_cons (d_v 0) (as_cons (d_v 3) as_nil))))))))) (ss_one (s_raiseB (k := 1) rfl tk T.ex c_bad (hr.mono (by omega)) hZ (d_v 2))) ss_nil)))))
theorem D_chosen (hw0 : Wd.w = w) (T : Names K mg) (F : Std K mg "chosen" s_chosen ["many", "least", "some"]) : DefD P w K mg base (zOf K ns) 6 "chosen" ["many", "least", "some"] DM.f_chosen :=
  rec_D (k := 0) hw0 F sc_chosen (fun n fD cself f cdv A' outer s H E A hZ hn hw hr tk =>
    (ss_cons (s_if (t_cmp (o_eq (r64 hr)) (b_v 2) (b_d d_int) (nomark _)) (ss_one (s_retO (o_lst (as_cons (d_tup as_nil) as_nil)))) ss_nil)
    (ss_cons (s_setO 3 sc_chosen.nd (o_lst as_nil))
    (ss_cons (s_for (passes_of rfl) rfl (i_rng2 T.n_range (bs_cons (b_v 1) (bs_cons (b_v 0) bs_nil))) (pg_name (i := 4) sc_chosen.nd rfl (by first | exact Or.inl rfl | exact Or.inr rfl)) tgs_name (ss_one (s_extend 3 (b_d (d_o (o_lc (own := [("rest", 5)]) rfl sc_chosen.nd (i_seq (b_d (d_call (cself.z hZ) tk (hr.mono (by omega)) (as_cons (d_v 0) (as_cons (d_op o_add (b_v 4) (b_d d_int)) (as_cons (d_op o_sub (b_v 2) (b_d d_int)) as_nil)))))) (blkOk_by (own := [("rest", 5)]) (N := N_chosen) (sc := defScope s_chosen) (by decide +kernel)) (fun _ _ _ _ _ => (pg_name (i := 5) sc_chosen.nd rfl (by first | exact Or.inl rfl | exact Or.inr rfl))) tgs_name (fun _ _ _ _ _ => ts_nil) (fun _ _ _ _ _ => (d_op o_add (b_d (d_tup (as_cons (d_v 4) as_nil))) (b_v 5)))))))))
    (ss_one (s_retV 3)))))) 6
theorem D_meetings_of (hw0 : Wd.w = w) (T : Names K mg) (F : Std K mg "meetings_of" s_meetings_of ["levels", "strength"]) (c_chosen : DefD P w K mg base (zOf K ns) 6 "chosen" ["many", "least", "some"] DM.f_chosen) : DefD P w K mg base (zOf K ns) 7 "meetings_of" ["levels", "strength"] DM.f_meetings_of :=
  def_D hw0 F sc_meetings_of fun f cdv A' outer s H E A hZ hn hw hr tk =>
    (ss_cons (s_setO 2 sc_meetings_of.nd (o_lst as_nil))
    (ss_cons (s_for (passes_of rfl) rfl (i_seqF (d_call (c_chosen.z hZ) tk (hr.mono (by omega)) (as_cons (d_callB c_len (by rfl) T.n_len (by decide +kernel) (bs_cons (b_v 0) bs_nil)) (as_cons d_int (as_cons (d_v 1) as_nil))))) (pg_name (i := 3) sc_meetings_of.nd rfl (by first | exact Or.inl rfl | exact Or.inr rfl)) tgs_name (ss_cons (s_set 4 sc_meetings_of.nd (d_o (o_lst (as_cons (d_tup as_nil) as_nil))))
    (ss_cons (s_for (passes_of rfl) rfl (i_seqF (d_v 3)) (pg_name (i := 5) sc_meetings_of.nd rfl (by first | exact Or.inl rfl | exact Or.inr rfl)) tgs_name (ss_cons (s_setO 6 sc_meetings_of.nd (o_lst as_nil))
    (ss_cons (s_for (passes_of rfl) rfl (i_seqF (d_v 4)) (pg_name (i := 7) sc_meetings_of.nd rfl (by first | exact Or.inl rfl | exact Or.inr rfl)) tgs_name (ss_one (s_extend 6 (b_d (d_o (o_lc (own := [("setting", 8)]) rfl sc_meetings_of.nd (ih_f (i_rng1 T.n_range (bs_cons (b_d (d_ix o_ix (b_v 0) (b_v 5) (fun _ _ => rfl))) bs_nil))) (blkOk_by (own := [("setting", 8)]) (N := N_meetings_of) (sc := defScope s_meetings_of) (by decide +kernel)) (fun _ _ _ _ _ => (pg_name (i := 8) sc_meetings_of.nd rfl (by first | exact Or.inl rfl | exact Or.inr rfl))) tgs_name (fun _ _ _ _ _ => ts_nil) (fun _ _ _ _ _ => (d_op o_add (b_v 7) (b_d (d_tup (as_cons (d_tup (as_cons (d_v 5) (as_cons (d_v 8) as_nil))) as_nil)))))))))))
    (ss_one (s_frz 6 (s_set 4 sc_meetings_of.nd (d_v 6)))))))
    (ss_one (s_extend 2 (b_v 4))))))
    (ss_one (s_retO (o_callB (c_sorted (r64 hr)) (by rfl) T.n_sorted (by decide +kernel) (bs_cons (b_v 2) bs_nil))))))
theorem D_all_meetings (hw0 : Wd.w = w) (T : Names K mg) (F : Std K mg "all_meetings" s_all_meetings ["book", "strength"]) (c_look_strength : DefD P w K mg base (zOf K ns) 5 "look_strength" ["book", "strength"] DM.f_look_strength) (c_meetings_of : DefD P w K mg base (zOf K ns) 7 "meetings_of" ["levels", "strength"] DM.f_meetings_of) : DefD P w K mg base (zOf K ns) 8 "all_meetings" ["book", "strength"] DM.f_all_meetings :=
  def_D hw0 F sc_all_meetings fun f cdv A' outer s H E A hZ hn hw hr tk =>
    (ss_cons (s_drop (d_call (c_look_strength.z hZ) tk (hr.mono (by omega)) (as_cons (d_v 0) (as_cons (d_v 1) as_nil))))
    (ss_one (s_retO (o_call (c_meetings_of.z hZ) tk (hr.mono (by omega)) (as_cons (d_ix o_ix (b_v 0) (b_d d_int) (fun _ _ => rfl)) (as_cons (d_v 1) as_nil))))))
theorem D_possible_of (hw0 : Wd.w = w) (T : Names K mg) (F : Std K mg "possible_of" s_possible_of ["book", "strength"]) (c_tests_of : DefD P w K mg base (zOf K ns) 3 "tests_of" ["book"] DM.f_tests_of) (c_meetings_of : DefD P w K mg base (zOf K ns) 7 "meetings_of" ["levels", "strength"] DM.f_meetings_of) (c_meets : DefD P w K mg base (zOf K ns) 1 "meets" ["test", "meeting"] DM.f_meets) : DefD P w K mg base (zOf K ns) 8 "possible_of" ["book", "strength"] DM.f_possible_of :=
  def_D hw0 F sc_possible_of fun f cdv A' outer s H E A hZ hn hw hr tk =>
    (ss_cons (s_set 2 sc_possible_of.nd (d_call (c_tests_of.z hZ) tk (hr.mono (by omega)) (as_cons (d_v 0) as_nil)))
    (ss_one (s_retO (o_lc (own := [("one", 3)]) rfl sc_possible_of.nd (i_seq (b_d (d_call (c_meetings_of.z hZ) tk (hr.mono (by omega)) (as_cons (d_ix o_ix (b_v 0) (b_d d_int) (fun _ _ => rfl)) (as_cons (d_v 1) as_nil))))) (blkOk_by (own := [("one", 3)]) (N := N_possible_of) (sc := defScope s_possible_of) (by decide +kernel)) (fun _ _ _ _ _ => (pg_name (i := 3) sc_possible_of.nd rfl (by first | exact Or.inl rfl | exact Or.inr rfl))) tgs_name (fun _ _ _ _ _ => (ts_one (t_val (b_d (d_o (o_lc (own := [("test", 4)]) rfl sc_possible_of.nd (i_seq (b_v 2)) (blkOk_by (own := [("test", 4)]) (by rfl)) (fun _ _ _ _ _ => (pg_name (i := 4) sc_possible_of.nd rfl (by first | exact Or.inl rfl | exact Or.inr rfl))) tgs_name (fun _ _ _ _ _ => (ts_one (t_val (b_d (d_call (c_meets.z hZ) takesW (hr.mono (by omega)) (as_cons (d_v 4) (as_cons (d_v 3) as_nil))))))) (fun _ _ _ _ _ => (d_v 4)))))))) (fun _ _ _ _ _ => (d_v 3))))))
theorem D_possible (hw0 : Wd.w = w) (T : Names K mg) (F : Std K mg "possible" s_possible ["book", "strength"]) (c_look_strength : DefD P w K mg base (zOf K ns) 5 "look_strength" ["book", "strength"] DM.f_look_strength) (c_possible_of : DefD P w K mg base (zOf K ns) 8 "possible_of" ["book", "strength"] DM.f_possible_of) : DefD P w K mg base (zOf K ns) 9 "possible" ["book", "strength"] DM.f_possible :=
  def_D hw0 F sc_possible fun f cdv A' outer s H E A hZ hn hw hr tk =>
    (ss_cons (s_drop (d_call (c_look_strength.z hZ) tk (hr.mono (by omega)) (as_cons (d_v 0) (as_cons (d_v 1) as_nil))))
    (ss_one (s_retO (o_call (c_possible_of.z hZ) tk (hr.mono (by omega)) (as_cons (d_v 0) (as_cons (d_v 1) as_nil))))))
theorem D_impossible (hw0 : Wd.w = w) (T : Names K mg) (F : Std K mg "impossible" s_impossible ["book", "strength"]) (c_look_strength : DefD P w K mg base (zOf K ns) 5 "look_strength" ["book", "strength"] DM.f_look_strength) (c_possible_of : DefD P w K mg base (zOf K ns) 8 "possible_of" ["book", "strength"] DM.f_possible_of) (c_meetings_of : DefD P w K mg base (zOf K ns) 7 "meetings_of" ["levels", "strength"] DM.f_meetings_of) : DefD P w K mg base (zOf K ns) 9 "impossible" ["book", "strength"] DM.f_impossible :=
  def_D hw0 F sc_impossible fun f cdv A' outer s H E A hZ hn hw hr tk =>
    (ss_cons (s_drop (d_call (c_look_strength.z hZ) tk (hr.mono (by omega)) (as_cons (d_v 0) (as_cons (d_v 1) as_nil))))
    (ss_cons (s_set 2 sc_impossible.nd (d_call (c_possible_of.z hZ) tk (hr.mono (by omega)) (as_cons (d_v 0) (as_cons (d_v 1) as_nil))))
    (ss_one (s_retO (o_lc (own := [("one", 3)]) rfl sc_impossible.nd (i_seq (b_d (d_call (c_meetings_of.z hZ) tk (hr.mono (by omega)) (as_cons (d_ix o_ix (b_v 0) (b_d d_int) (fun _ _ => rfl)) (as_cons (d_v 1) as_nil))))) (blkOk_by (own := [("one", 3)]) (N := N_impossible) (sc := defScope s_impossible) (by decide +kernel)) (fun _ _ _ _ _ => (pg_name (i := 3) sc_impossible.nd rfl (by first | exact Or.inl rfl | exact Or.inr rfl))) tgs_name (fun _ _ _ _ _ => (ts_one (t_cmp (o_notIn (r65 hr)) (b_v 3) (b_v 2) (by with_unfolding_all rfl)))) (fun _ _ _ _ _ => (d_v 3)))))))
theorem D_look_cover (hw0 : Wd.w = w) (T : Names K mg) (F : Std K mg "look_cover" s_look_cover ["book", "strength", "tests"]) (c_look_strength : DefD P w K mg base (zOf K ns) 5 "look_strength" ["book", "strength"] DM.f_look_strength) (c_look_tests : DefD P w K mg base (zOf K ns) 3 "look_tests" ["book", "tests"] DM.f_look_tests) : DefD P w K mg base (zOf K ns) 6 "look_cover" ["book", "strength", "tests"] DM.f_look_cover :=
  def_D hw0 F sc_look_cover fun f cdv A' outer s H E A hZ hn hw hr tk =>
    (ss_cons (s_drop (d_call (c_look_strength.z hZ) tk (hr.mono (by omega)) (as_cons (d_v 0) (as_cons (d_v 1) as_nil))))
    (ss_one (s_drop (d_call (c_look_tests.z hZ) tk (hr.mono (by omega)) (as_cons (d_v 0) (as_cons (d_v 2) as_nil))))))
theorem D_unmet (hw0 : Wd.w = w) (T : Names K mg) (F : Std K mg "unmet" s_unmet ["some", "tests"]) (c_meets : DefD P w K mg base (zOf K ns) 1 "meets" ["test", "meeting"] DM.f_meets) : DefD P w K mg base (zOf K ns) 2 "unmet" ["some", "tests"] DM.f_unmet :=
  def_D hw0 F sc_unmet fun f cdv A' outer s H E A hZ hn hw hr tk =>
    (ss_one (s_retO (o_lc (own := [("one", 2)]) rfl sc_unmet.nd (i_seq (b_v 0)) (blkOk_by (own := [("one", 2)]) (N := N_unmet) (sc := defScope s_unmet) (by decide +kernel)) (fun _ _ _ _ _ => (pg_name (i := 2) sc_unmet.nd rfl (by first | exact Or.inl rfl | exact Or.inr rfl))) tgs_name (fun _ _ _ _ _ => (ts_one (t_not (t_val (b_d (d_o (o_lc (own := [("test", 3)]) rfl sc_unmet.nd (i_seq (b_v 1)) (blkOk_by (own := [("test", 3)]) (by rfl)) (fun _ _ _ _ _ => (pg_name (i := 3) sc_unmet.nd rfl (by first | exact Or.inl rfl | exact Or.inr rfl))) tgs_name (fun _ _ _ _ _ => (ts_one (t_val (b_d (d_call (c_meets.z hZ) takesW (hr.mono (by omega)) (as_cons (d_v 3) (as_cons (d_v 2) as_nil))))))) (fun _ _ _ _ _ => (d_v 3))))))))) (fun _ _ _ _ _ => (d_v 2)))))
theorem D_missing (hw0 : Wd.w = w) (T : Names K mg) (F : Std K mg "missing" s_missing ["book", "strength", "tests"]) (c_look_cover : DefD P w K mg base (zOf K ns) 6 "look_cover" ["book", "strength", "tests"] DM.f_look_cover) (c_unmet : DefD P w K mg base (zOf K ns) 2 "unmet" ["some", "tests"] DM.f_unmet) (c_possible_of : DefD P w K mg base (zOf K ns) 8 "possible_of" ["book", "strength"] DM.f_possible_of) : DefD P w K mg base (zOf K ns) 9 "missing" ["book", "strength", "tests"] DM.f_missing :=
  def_D hw0 F sc_missing fun f cdv A' outer s H E A hZ hn hw hr tk =>
    (ss_cons (s_drop (d_call (c_look_cover.z hZ) tk (hr.mono (by omega)) (as_cons (d_v 0) (as_cons (d_v 1) (as_cons (d_v 2) as_nil)))))
    (ss_one (s_retO (o_call (c_unmet.z hZ) tk (hr.mono (by omega)) (as_cons (d_call (c_possible_of.z hZ) tk (hr.mono (by omega)) (as_cons (d_v 0) (as_cons (d_v 1) as_nil))) (as_cons (d_v 2) as_nil))))))
theorem D_is_cover (hw0 : Wd.w = w) (T : Names K mg) (F : Std K mg "is_cover" s_is_cover ["book", "strength", "tests"]) (c_missing : DefD P w K mg base (zOf K ns) 9 "missing" ["book", "strength", "tests"] DM.f_missing) : DefD P w K mg base (zOf K ns) 10 "is_cover" ["book", "strength", "tests"] DM.f_is_cover :=
  def_D hw0 F sc_is_cover fun f cdv A' outer s H E A hZ hn hw hr tk =>
    (ss_one (s_ret (d_not (b_d (d_call (c_missing.z hZ) tk (hr.mono (by omega)) (as_cons (d_v 0) (as_cons (d_v 1) (as_cons (d_v 2) as_nil))))))))
theorem D_without (hw0 : Wd.w = w) (T : Names K mg) (F : Std K mg "without" s_without ["tests", "at"]) : DefD P w K mg base (zOf K ns) 1 "without" ["tests", "at"] DM.f_without :=
  def_D hw0 F sc_without fun f cdv A' outer s H E A hZ hn hw hr tk =>
    (ss_one (s_retO (o_op o_cat (b_d (d_slice s_any (b_v 0) p_none (p_some (b_v 1)))) (b_d (d_slice s_any (b_v 0) (p_some (b_d (d_op o_add (b_v 1) (b_d d_int)))) p_none)))))
theorem D_needless (hw0 : Wd.w = w) (T : Names K mg) (F : Std K mg "needless" s_needless ["book", "strength", "tests"]) (c_look_cover : DefD P w K mg base (zOf K ns) 6 "look_cover" ["book", "strength", "tests"] DM.f_look_cover) (c_unmet : DefD P w K mg base (zOf K ns) 2 "unmet" ["some", "tests"] DM.f_unmet) (c_possible_of : DefD P w K mg base (zOf K ns) 8 "possible_of" ["book", "strength"] DM.f_possible_of) (c_without : DefD P w K mg base (zOf K ns) 1 "without" ["tests", "at"] DM.f_without) : DefD P w K mg base (zOf K ns) 9 "needless" ["book", "strength", "tests"] DM.f_needless :=
  def_D hw0 F sc_needless fun f cdv A' outer s H E A hZ hn hw hr tk =>
    (ss_cons (s_drop (d_call (c_look_cover.z hZ) tk (hr.mono (by omega)) (as_cons (d_v 0) (as_cons (d_v 1) (as_cons (d_v 2) as_nil)))))
    (ss_cons (s_set 3 sc_needless.nd (d_call (c_unmet.z hZ) tk (hr.mono (by omega)) (as_cons (d_call (c_possible_of.z hZ) tk (hr.mono (by omega)) (as_cons (d_v 0) (as_cons (d_v 1) as_nil))) (as_cons (d_v 2) as_nil))))
    (ss_cons (s_set 4 sc_needless.nd (d_call (c_possible_of.z hZ) tk (hr.mono (by omega)) (as_cons (d_v 0) (as_cons (d_v 1) as_nil))))
    (ss_one (s_retO (o_lc (own := [("at", 5)]) rfl sc_needless.nd (ih_f (i_rng1 T.n_range (bs_cons (b_d (d_callB c_len (by rfl) T.n_len (by decide +kernel) (bs_cons (b_v 2) bs_nil))) bs_nil))) (blkOk_by (own := [("at", 5)]) (N := N_needless) (sc := defScope s_needless) (by decide +kernel)) (fun _ _ _ _ _ => (pg_name (i := 5) sc_needless.nd rfl (by first | exact Or.inl rfl | exact Or.inr rfl))) tgs_name (fun _ _ _ _ _ => (ts_one (t_cmp (o_eq (r64 hr)) (b_d (d_call (c_unmet.z hZ) takesW (hr.mono (by omega)) (as_cons (d_v 4) (as_cons (d_call (c_without.z hZ) takesW (hr.mono (by omega)) (as_cons (d_v 2) (as_cons (d_v 5) as_nil))) as_nil)))) (b_v 3) (nomark _)))) (fun _ _ _ _ _ => (d_v 5))))))))
theorem D_trimmed_of (hw0 : Wd.w = w) (T : Names K mg) (F : Std K mg "trimmed_of" s_trimmed_of ["some", "tests"]) (c_unmet : DefD P w K mg base (zOf K ns) 2 "unmet" ["some", "tests"] DM.f_unmet) (c_without : DefD P w K mg base (zOf K ns) 1 "without" ["tests", "at"] DM.f_without) : DefD P w K mg base (zOf K ns) 3 "trimmed_of" ["some", "tests"] DM.f_trimmed_of :=
  def_D hw0 F sc_trimmed_of fun f cdv A' outer s H E A hZ hn hw hr tk =>
    (ss_cons (s_setO 2 sc_trimmed_of.nd (o_callTy c_list (by rfl) T.n_list (by decide +kernel) (bs_cons (b_v 1) bs_nil)))
    (ss_cons (s_set 3 sc_trimmed_of.nd (d_call (c_unmet.z hZ) tk (hr.mono (by omega)) (as_cons (d_v 0) (as_cons (d_v 1) as_nil))))
    (ss_cons (s_for (passes_of rfl) rfl (i_rng3 T.n_range (bs_cons (b_d (d_op o_sub (b_d (d_callB c_len (by rfl) T.n_len (by decide +kernel) (bs_cons (b_v 1) bs_nil))) (b_d d_int))) (bs_cons (b_d (d_neg (b_d d_int))) (bs_cons (b_d (d_neg (b_d d_int))) bs_nil)))) (pg_name (i := 4) sc_trimmed_of.nd rfl (by first | exact Or.inl rfl | exact Or.inr rfl)) tgs_name (ss_one (s_if (t_cmp (o_eq (r64 hr)) (b_d (d_call (c_unmet.z hZ) tk (hr.mono (by omega)) (as_cons (d_v 0) (as_cons (d_o (o_lend 2 (o_call (c_without.z hZ) tk (hr.mono (by omega)) (as_cons (d_v 2) (as_cons (d_v 4) as_nil))))) as_nil)))) (b_v 3) (nomark _)) (ss_one (s_setO 2 sc_trimmed_of.nd (o_lend 2 (o_call (c_without.z hZ) tk (hr.mono (by omega)) (as_cons (d_v 2) (as_cons (d_v 4) as_nil)))))) ss_nil)))
    (ss_one (s_retV 2)))))
theorem D_trimmed (hw0 : Wd.w = w) (T : Names K mg) (F : Std K mg "trimmed" s_trimmed ["book", "strength", "tests"]) (c_look_cover : DefD P w K mg base (zOf K ns) 6 "look_cover" ["book", "strength", "tests"] DM.f_look_cover) (c_trimmed_of : DefD P w K mg base (zOf K ns) 3 "trimmed_of" ["some", "tests"] DM.f_trimmed_of) (c_possible_of : DefD P w K mg base (zOf K ns) 8 "possible_of" ["book", "strength"] DM.f_possible_of) : DefD P w K mg base (zOf K ns) 9 "trimmed" ["book", "strength", "tests"] DM.f_trimmed :=
  def_D hw0 F sc_trimmed fun f cdv A' outer s H E A hZ hn hw hr tk =>
    (ss_cons (s_drop (d_call (c_look_cover.z hZ) tk (hr.mono (by omega)) (as_cons (d_v 0) (as_cons (d_v 1) (as_cons (d_v 2) as_nil)))))
    (ss_one (s_retO (o_call (c_trimmed_of.z hZ) tk (hr.mono (by omega)) (as_cons (d_call (c_possible_of.z hZ) tk (hr.mono (by omega)) (as_cons (d_v 0) (as_cons (d_v 1) as_nil))) (as_cons (d_v 2) as_nil))))))
theorem D_new_met (hw0 : Wd.w = w) (T : Names K mg) (F : Std K mg "new_met" s_new_met ["some", "test"]) (c_meets : DefD P w K mg base (zOf K ns) 1 "meets" ["test", "meeting"] DM.f_meets) : DefD P w K mg base (zOf K ns) 2 "new_met" ["some", "test"] DM.f_new_met :=
  def_D hw0 F sc_new_met fun f cdv A' outer s H E A hZ hn hw hr tk =>
    (ss_one (s_ret (d_callB c_len (by rfl) T.n_len (by decide +kernel) (bs_cons (b_d (d_o (o_lc (own := [("one", 2)]) rfl sc_new_met.nd (i_seq (b_v 0)) (blkOk_by (own := [("one", 2)]) (N := N_new_met) (sc := defScope s_new_met) (by decide +kernel)) (fun _ _ _ _ _ => (pg_name (i := 2) sc_new_met.nd rfl (by first | exact Or.inl rfl | exact Or.inr rfl))) tgs_name (fun _ _ _ _ _ => (ts_one (t_val (b_d (d_call (c_meets.z hZ) takesW (hr.mono (by omega)) (as_cons (d_v 1) (as_cons (d_v 2) as_nil))))))) (fun _ _ _ _ _ => (d_v 2))))) bs_nil))))
theorem D_in_order (hw0 : Wd.w = w) (T : Names K mg) (F : Std K mg "in_order" s_in_order ["book", "strength", "tests"]) (c_look_cover : DefD P w K mg base (zOf K ns) 6 "look_cover" ["book", "strength", "tests"] DM.f_look_cover) (c_possible_of : DefD P w K mg base (zOf K ns) 8 "possible_of" ["book", "strength"] DM.f_possible_of) (c_new_met : DefD P w K mg base (zOf K ns) 2 "new_met" ["some", "test"] DM.f_new_met) (c_unmet : DefD P w K mg base (zOf K ns) 2 "unmet" ["some", "tests"] DM.f_unmet) : DefD P w K mg base (zOf K ns) 9 "in_order" ["book", "strength", "tests"] DM.f_in_order :=
  def_D hw0 F sc_in_order fun f cdv A' outer s H E A hZ hn hw hr tk =>
    (ss_cons (s_drop (d_call (c_look_cover.z hZ) tk (hr.mono (by omega)) (as_cons (d_v 0) (as_cons (d_v 1) (as_cons (d_v 2) as_nil)))))
    (ss_cons (s_set 3 sc_in_order.nd (d_call (c_possible_of.z hZ) tk (hr.mono (by omega)) (as_cons (d_v 0) (as_cons (d_v 1) as_nil))))
    (ss_cons (s_setO 4 sc_in_order.nd (o_callTy c_list (by rfl) T.n_list (by decide +kernel) (bs_cons (b_v 2) bs_nil)))
    (ss_cons (s_setO 5 sc_in_order.nd (o_lst as_nil))
    (ss_cons (s_while (passes_of rfl) (t_val (b_v 4)) (ss_cons (s_setLc 7 (own := [("test", 6)]) rfl sc_in_order.nd (sw_true rfl rfl rfl (by decide +kernel)) (i_seq (b_v 4)) (blkOk_by (own := [("test", 6)]) (N := N_in_order) (sc := defScope s_in_order) (by decide +kernel)) (fun _ _ _ _ _ => (pg_name (i := 6) sc_in_order.nd rfl (by first | exact Or.inl rfl | exact Or.inr rfl))) tgs_name (fun _ _ _ _ _ => ts_nil) (fun _ _ _ _ _ => (d_call (c_new_met.z hZ) takesW (hr.mono (by omega)) (as_cons (d_v 3) (as_cons (d_v 6) as_nil)))))
    (ss_cons (s_setE 6 sc_in_order.nd (e_popAt 4 (b_d (d_index (r65 hr) (b_v 7) (d_callB (c_maxL rfl) (by rfl) T.n_max (by decide +kernel) (bs_cons (b_v 7) bs_nil))))))
    (ss_cons (s_append 5 (d_v 6))
    (ss_one (s_set 3 sc_in_order.nd (d_call (c_unmet.z hZ) tk (hr.mono (by omega)) (as_cons (d_v 3) (as_cons (d_o (o_lst (as_cons (d_v 6) as_nil))) as_nil)))))))))
    (ss_one (s_retV 5)))))))
theorem D_filled (hw0 : Wd.w = w) (T : Names K mg) (F : Std K mg "filled" s_filled ["book", "some", "tests"]) (c_unmet : DefD P w K mg base (zOf K ns) 2 "unmet" ["some", "tests"] DM.f_unmet) (c_tests_of : DefD P w K mg base (zOf K ns) 3 "tests_of" ["book"] DM.f_tests_of) (c_new_met : DefD P w K mg base (zOf K ns) 2 "new_met" ["some", "test"] DM.f_new_met) : DefD P w K mg base (zOf K ns) 4 "filled" ["book", "some", "tests"] DM.f_filled :=
  def_D hw0 F sc_filled fun f cdv A' outer s H E A hZ hn hw hr tk =>
    (ss_cons (s_setO 3 sc_filled.nd (o_callTy c_list (by rfl) T.n_list (by decide +kernel) (bs_cons (b_v 2) bs_nil)))
    (ss_cons (s_set 4 sc_filled.nd (d_o (o_lend 3 (o_call (c_unmet.z hZ) tk (hr.mono (by omega)) (as_cons (d_v 1) (as_cons (d_v 3) as_nil))))))
    (ss_cons (s_set 5 sc_filled.nd (d_call (c_tests_of.z hZ) tk (hr.mono (by omega)) (as_cons (d_v 0) as_nil)))
    (ss_cons (s_while (passes_of rfl) (t_val (b_v 4)) (ss_cons (s_setLc 7 (own := [("test", 6)]) rfl sc_filled.nd (sw_true rfl rfl rfl (by decide +kernel)) (i_seq (b_v 5)) (blkOk_by (own := [("test", 6)]) (N := N_filled) (sc := defScope s_filled) (by decide +kernel)) (fun _ _ _ _ _ => (pg_name (i := 6) sc_filled.nd rfl (by first | exact Or.inl rfl | exact Or.inr rfl))) tgs_name (fun _ _ _ _ _ => ts_nil) (fun _ _ _ _ _ => (d_call (c_new_met.z hZ) takesW (hr.mono (by omega)) (as_cons (d_v 4) (as_cons (d_v 6) as_nil)))))
    (ss_cons (s_append 3 (d_ix o_ix (b_v 5) (b_d (d_index (r65 hr) (b_v 7) (d_callB (c_maxL rfl) (by rfl) T.n_max (by decide +kernel) (bs_cons (b_v 7) bs_nil)))) (fun _ _ => rfl)))
    (ss_one (s_set 4 sc_filled.nd (d_call (c_unmet.z hZ) tk (hr.mono (by omega)) (as_cons (d_v 4) (as_cons (d_slice s_any (b_v 3) (p_some (b_d (d_neg (b_d d_int)))) p_none) as_nil))))))))
    (ss_one (s_retV 3))))))
theorem D_built (hw0 : Wd.w = w) (T : Names K mg) (F : Std K mg "built" s_built ["book", "strength"]) (c_look_strength : DefD P w K mg base (zOf K ns) 5 "look_strength" ["book", "strength"] DM.f_look_strength) (c_possible_of : DefD P w K mg base (zOf K ns) 8 "possible_of" ["book", "strength"] DM.f_possible_of) (c_trimmed_of : DefD P w K mg base (zOf K ns) 3 "trimmed_of" ["some", "tests"] DM.f_trimmed_of) (c_filled : DefD P w K mg base (zOf K ns) 4 "filled" ["book", "some", "tests"] DM.f_filled) : DefD P w K mg base (zOf K ns) 9 "built" ["book", "strength"] DM.f_built :=
  def_D hw0 F sc_built fun f cdv A' outer s H E A hZ hn hw hr tk =>
    (ss_cons (s_drop (d_call (c_look_strength.z hZ) tk (hr.mono (by omega)) (as_cons (d_v 0) (as_cons (d_v 1) as_nil))))
    (ss_cons (s_set 2 sc_built.nd (d_call (c_possible_of.z hZ) tk (hr.mono (by omega)) (as_cons (d_v 0) (as_cons (d_v 1) as_nil))))
    (ss_one (s_retO (o_call (c_trimmed_of.z hZ) tk (hr.mono (by omega)) (as_cons (d_v 2) (as_cons (d_call (c_filled.z hZ) tk (hr.mono (by omega)) (as_cons (d_v 0) (as_cons (d_v 2) (as_cons (d_o (o_lst as_nil)) as_nil)))) as_nil)))))))
theorem D_look_results (hw0 : Wd.w = w) (T : Names K mg) (F : Std K mg "look_results" s_look_results ["book", "strength", "tests", "results"]) (c_look_strength : DefD P w K mg base (zOf K ns) 5 "look_strength" ["book", "strength"] DM.f_look_strength) (c_look_tests : DefD P w K mg base (zOf K ns) 3 "look_tests" ["book", "tests"] DM.f_look_tests) : DefD P w K mg base (zOf K ns) 6 "look_results" ["book", "strength", "tests", "results"] DM.f_look_results :=
  def_D hw0 F sc_look_results fun f cdv A' outer s H E A hZ hn hw hr tk =>
    (ss_cons (s_drop (d_call (c_look_strength.z hZ) tk (hr.mono (by omega)) (as_cons (d_v 0) (as_cons (d_v 1) as_nil))))
    (ss_cons (s_drop (d_call (c_look_tests.z hZ) tk (hr.mono (by omega)) (as_cons (d_v 0) (as_cons (d_v 2) as_nil))))
    (ss_cons (s_if (PW.pt (t_or (t_not (t_val (b_d (d_isi T.n_isinstance (b_v 3) (pe_bltn (by rfl) T.n_list (by decide +kernel) rfl))))) (t_or1 (t_cmp (o_ne (r64 hr)) (b_d (d_callB c_len (by rfl) T.n_len (by decide +kernel) (bs_cons (b_v 3) bs_nil))) (b_d (d_callB c_len (by rfl) T.n_len (by decide +kernel) (bs_cons (b_v 2) bs_nil))) (nomark _))))) (ss_one (s_raise "BadResults" rfl tk T.ex hZ)) ss_nil)
    (ss_one (s_if (t_val (b_d (d_o (o_lc (own := [("one", 4)]) rfl sc_look_results.nd (i_seq (b_v 3)) (blkOk_by (own := [("one", 4)]) (N := N_look_results) (sc := defScope s_look_results) (by decide +kernel)) (fun _ _ _ _ _ => (pg_name (i := 4) sc_look_results.nd rfl (by first | exact Or.inl rfl | exact Or.inr rfl))) tgs_name (fun _ _ _ _ _ => (ts_one (t_not (t_val (b_d (d_isi T.n_isinstance (b_v 4) (pe_bltn (by rfl) T.n_bool (by decide +kernel) rfl))))))) (fun _ _ _ _ _ => (d_v 4)))))) (ss_one (s_raise "BadResults" rfl tk T.ex hZ)) ss_nil)))))
theorem D_results_by (hw0 : Wd.w = w) (T : Names K mg) (F : Std K mg "results_by" s_results_by ["meeting", "tests"]) (c_meets : DefD P w K mg base (zOf K ns) 1 "meets" ["test", "meeting"] DM.f_meets) : DefD P w K mg base (zOf K ns) 2 "results_by" ["meeting", "tests"] DM.f_results_by :=
  def_D hw0 F sc_results_by fun f cdv A' outer s H E A hZ hn hw hr tk =>
    (ss_one (s_retO (o_lc (own := [("test", 2)]) rfl sc_results_by.nd (i_seq (b_v 1)) (blkOk_by (own := [("test", 2)]) (N := N_results_by) (sc := defScope s_results_by) (by decide +kernel)) (fun _ _ _ _ _ => (pg_name (i := 2) sc_results_by.nd rfl (by first | exact Or.inl rfl | exact Or.inr rfl))) tgs_name (fun _ _ _ _ _ => ts_nil) (fun _ _ _ _ _ => (d_not (b_d (d_call (c_meets.z hZ) takesW (hr.mono (by omega)) (as_cons (d_v 2) (as_cons (d_v 0) as_nil)))))))))
theorem D_suspects_of (hw0 : Wd.w = w) (T : Names K mg) (F : Std K mg "suspects_of" s_suspects_of ["book", "strength", "tests", "results"]) (c_possible_of : DefD P w K mg base (zOf K ns) 8 "possible_of" ["book", "strength"] DM.f_possible_of) (c_results_by : DefD P w K mg base (zOf K ns) 2 "results_by" ["meeting", "tests"] DM.f_results_by) : DefD P w K mg base (zOf K ns) 9 "suspects_of" ["book", "strength", "tests", "results"] DM.f_suspects_of :=
  def_D hw0 F sc_suspects_of fun f cdv A' outer s H E A hZ hn hw hr tk =>
    (ss_one (s_retO (o_lc (own := [("one", 4)]) rfl sc_suspects_of.nd (i_seq (b_d (d_call (c_possible_of.z hZ) tk (hr.mono (by omega)) (as_cons (d_v 0) (as_cons (d_v 1) as_nil))))) (blkOk_by (own := [("one", 4)]) (N := N_suspects_of) (sc := defScope s_suspects_of) (by decide +kernel)) (fun _ _ _ _ _ => (pg_name (i := 4) sc_suspects_of.nd rfl (by first | exact Or.inl rfl | exact Or.inr rfl))) tgs_name (fun _ _ _ _ _ => (ts_one (t_cmp (o_eq (r64 hr)) (b_d (d_call (c_results_by.z hZ) takesW (hr.mono (by omega)) (as_cons (d_v 4) (as_cons (d_v 2) as_nil)))) (b_v 3) (nomark _)))) (fun _ _ _ _ _ => (d_v 4)))))
theorem D_suspects (hw0 : Wd.w = w) (T : Names K mg) (F : Std K mg "suspects" s_suspects ["book", "strength", "tests", "results"]) (c_look_results : DefD P w K mg base (zOf K ns) 6 "look_results" ["book", "strength", "tests", "results"] DM.f_look_results) (c_suspects_of : DefD P w K mg base (zOf K ns) 9 "suspects_of" ["book", "strength", "tests", "results"] DM.f_suspects_of) : DefD P w K mg base (zOf K ns) 10 "suspects" ["book", "strength", "tests", "results"] DM.f_suspects :=
  def_D hw0 F sc_suspects fun f cdv A' outer s H E A hZ hn hw hr tk =>
    (ss_cons (s_drop (d_call (c_look_results.z hZ) tk (hr.mono (by omega)) (as_cons (d_v 0) (as_cons (d_v 1) (as_cons (d_v 2) (as_cons (d_v 3) as_nil))))))
    (ss_one (s_retO (o_call (c_suspects_of.z hZ) tk (hr.mono (by omega)) (as_cons (d_v 0) (as_cons (d_v 1) (as_cons (d_v 2) (as_cons (d_v 3) as_nil))))))))
theorem D_blurred (hw0 : Wd.w = w) (T : Names K mg) (F : Std K mg "blurred" s_blurred ["book", "strength", "tests"]) (c_look_strength : DefD P w K mg base (zOf K ns) 5 "look_strength" ["book", "strength"] DM.f_look_strength) (c_look_tests : DefD P w K mg base (zOf K ns) 3 "look_tests" ["book", "tests"] DM.f_look_tests) (c_possible_of : DefD P w K mg base (zOf K ns) 8 "possible_of" ["book", "strength"] DM.f_possible_of) (c_results_by : DefD P w K mg base (zOf K ns) 2 "results_by" ["meeting", "tests"] DM.f_results_by) : DefD P w K mg base (zOf K ns) 9 "blurred" ["book", "strength", "tests"] DM.f_blurred :=
  def_D hw0 F sc_blurred fun f cdv A' outer s H E A hZ hn hw hr tk =>
    (ss_cons (s_drop (d_call (c_look_strength.z hZ) tk (hr.mono (by omega)) (as_cons (d_v 0) (as_cons (d_v 1) as_nil))))
    (ss_cons (s_drop (d_call (c_look_tests.z hZ) tk (hr.mono (by omega)) (as_cons (d_v 0) (as_cons (d_v 2) as_nil))))
    (ss_cons (s_dnew 3 hw sc_blurred.nd)
    (ss_cons (s_for (passes_of rfl) rfl (i_seqF (d_call (c_possible_of.z hZ) tk (hr.mono (by omega)) (as_cons (d_v 0) (as_cons (d_v 1) as_nil)))) (pg_name (i := 4) sc_blurred.nd rfl (by first | exact Or.inl rfl | exact Or.inr rfl)) tgs_name (ss_cons (s_set 5 sc_blurred.nd (d_callTy c_tuple (by rfl) T.n_tuple (by decide +kernel) (bs_cons (b_d (d_call (c_results_by.z hZ) tk (hr.mono (by omega)) (as_cons (d_v 4) (as_cons (d_v 2) as_nil)))) bs_nil)))
    (ss_one (s_dput 3 hw (r65 hr) (d_v 5) (d_op o_add (b_d (d_dget 3 hw (r65 hr) (d_v 5) (d_o (o_lst as_nil)) ⟨rfl, rfl, rfl, rfl⟩)) (b_d (d_o (o_lst (as_cons (d_v 4) as_nil)))))))))
    (ss_one (s_retO (o_callB (c_sorted (r64 hr)) (by rfl) T.n_sorted (by decide +kernel) (bs_cons (b_d (d_o (o_lc (own := [("key", 5)]) rfl sc_blurred.nd (i_dct 3) (blkOk_by (own := [("key", 5)]) (N := N_blurred) (sc := defScope s_blurred) (by decide +kernel)) (fun _ _ _ _ _ => (pg_name (i := 5) sc_blurred.nd rfl (by first | exact Or.inl rfl | exact Or.inr rfl))) tgs_name (fun _ _ _ _ _ => (ts_one (t_cmp o_gt (b_d (d_callB c_len (by rfl) T.n_len (by decide +kernel) (bs_cons (b_d (d_dgetI 3 hw (r65 hr) (d_v 5) (fun _ _ => rfl))) bs_nil))) (b_d d_int) (nomark _)))) (fun _ _ _ _ _ => (d_dgetI 3 hw (r65 hr) (d_v 5) (fun _ _ => rfl)))))) bs_nil))))))))
theorem D_next_test (hw0 : Wd.w = w) (T : Names K mg) (F : Std K mg "next_test" s_next_test ["book", "strength", "tests", "results"]) (c_suspects : DefD P w K mg base (zOf K ns) 10 "suspects" ["book", "strength", "tests", "results"] DM.f_suspects) (c_tests_of : DefD P w K mg base (zOf K ns) 3 "tests_of" ["book"] DM.f_tests_of) (c_meets : DefD P w K mg base (zOf K ns) 1 "meets" ["test", "meeting"] DM.f_meets) : DefD P w K mg base (zOf K ns) 11 "next_test" ["book", "strength", "tests", "results"] DM.f_next_test :=
  def_D hw0 F sc_next_test fun f cdv A' outer s H E A hZ hn hw hr tk =>
    (ss_cons (s_set 4 sc_next_test.nd (d_call (c_suspects.z hZ) tk (hr.mono (by omega)) (as_cons (d_v 0) (as_cons (d_v 1) (as_cons (d_v 2) (as_cons (d_v 3) as_nil))))))
    (ss_cons (s_set 5 sc_next_test.nd d_non)
    (ss_cons (s_for (passes_of rfl) rfl (i_seqF (d_call (c_tests_of.z hZ) tk (hr.mono (by omega)) (as_cons (d_v 0) as_nil))) (pg_name (i := 6) sc_next_test.nd rfl (by first | exact Or.inl rfl | exact Or.inr rfl)) tgs_name (ss_cons (s_set 8 sc_next_test.nd (d_callB c_len (by rfl) T.n_len (by decide +kernel) (bs_cons (b_d (d_o (o_lc (own := [("one", 7)]) rfl sc_next_test.nd (i_seq (b_v 4)) (blkOk_by (own := [("one", 7)]) (N := N_next_test) (sc := defScope s_next_test) (by decide +kernel)) (fun _ _ _ _ _ => (pg_name (i := 7) sc_next_test.nd rfl (by first | exact Or.inl rfl | exact Or.inr rfl))) tgs_name (fun _ _ _ _ _ => (ts_one (t_val (b_d (d_call (c_meets.z hZ) takesW (hr.mono (by omega)) (as_cons (d_v 6) (as_cons (d_v 7) as_nil))))))) (fun _ _ _ _ _ => (d_v 7))))) bs_nil)))
    (ss_cons (s_set 9 sc_next_test.nd (d_callB (c_max2 rfl) (by rfl) T.n_max (by decide +kernel) (bs_cons (b_v 8) (bs_cons (b_d (d_op o_sub (b_d (d_callB c_len (by rfl) T.n_len (by decide +kernel) (bs_cons (b_v 4) bs_nil))) (b_v 8))) bs_nil))))
    (ss_one (s_if (PW.pt (t_and (t_cmp o_lt (b_v 9) (b_d (d_callB c_len (by rfl) T.n_len (by decide +kernel) (bs_cons (b_v 4) bs_nil))) (nomark _)) (t_and1 (PW.pt (t_or (t_isN (b_v 5)) (t_or1 (t_cmp o_lt (b_v 9) (b_d (d_ix o_ix (b_v 5) (b_d d_int) (fun _ _ => rfl))) (nomark _)))))))) (ss_one (s_set 5 sc_next_test.nd (d_tup (as_cons (d_v 9) (as_cons (d_v 6) as_nil))))) ss_nil)))))
    (ss_cons (s_if (t_isN (b_v 5)) (ss_one (s_ret d_non)) ss_nil)
    (ss_one (s_ret (d_ix o_ix (b_v 5) (b_d d_int) (fun _ _ => rfl))))))))
theorem D_most_looked (hw0 : Wd.w = w) (T : Names K mg) (F : Std K mg "most_looked" s_most_looked ["book", "strength", "tests"]) (c_look_strength : DefD P w K mg base (zOf K ns) 5 "look_strength" ["book", "strength"] DM.f_look_strength) (c_look_tests : DefD P w K mg base (zOf K ns) 3 "look_tests" ["book", "tests"] DM.f_look_tests) (c_possible_of : DefD P w K mg base (zOf K ns) 8 "possible_of" ["book", "strength"] DM.f_possible_of) (c_next_test : DefD P w K mg base (zOf K ns) 11 "next_test" ["book", "strength", "tests", "results"] DM.f_next_test) (c_results_by : DefD P w K mg base (zOf K ns) 2 "results_by" ["meeting", "tests"] DM.f_results_by) : DefD P w K mg base (zOf K ns) 12 "most_looked" ["book", "strength", "tests"] DM.f_most_looked :=
  def_D hw0 F sc_most_looked fun f cdv A' outer s H E A hZ hn hw hr tk =>
    (ss_cons (s_drop (d_call (c_look_strength.z hZ) tk (hr.mono (by omega)) (as_cons (d_v 0) (as_cons (d_v 1) as_nil))))
    (ss_cons (s_drop (d_call (c_look_tests.z hZ) tk (hr.mono (by omega)) (as_cons (d_v 0) (as_cons (d_v 2) as_nil))))
    (ss_cons (s_set 3 sc_most_looked.nd d_int)
    (ss_cons (s_for (passes_of rfl) rfl (i_seqF (d_call (c_possible_of.z hZ) tk (hr.mono (by omega)) (as_cons (d_v 0) (as_cons (d_v 1) as_nil)))) (pg_name (i := 4) sc_most_looked.nd rfl (by first | exact Or.inl rfl | exact Or.inr rfl)) tgs_name (ss_cons (s_setO 5 sc_most_looked.nd (o_callTy c_list (by rfl) T.n_list (by decide +kernel) (bs_cons (b_v 2) bs_nil)))
    (ss_cons (s_set 6 sc_most_looked.nd (d_lend 5 (d_call (c_next_test.z hZ) tk (hr.mono (by omega)) (as_cons (d_v 0) (as_cons (d_v 1) (as_cons (d_v 5) (as_cons (d_o (o_lend 5 (o_call (c_results_by.z hZ) tk (hr.mono (by omega)) (as_cons (d_v 4) (as_cons (d_v 5) as_nil))))) as_nil)))))))
    (ss_cons (s_while (passes_of rfl) (t_notN (b_v 6)) (ss_cons (s_append 5 (d_v 6))
    (ss_one (s_set 6 sc_most_looked.nd (d_lend 5 (d_call (c_next_test.z hZ) tk (hr.mono (by omega)) (as_cons (d_v 0) (as_cons (d_v 1) (as_cons (d_v 5) (as_cons (d_o (o_lend 5 (o_call (c_results_by.z hZ) tk (hr.mono (by omega)) (as_cons (d_v 4) (as_cons (d_v 5) as_nil))))) as_nil))))))))))
    (ss_one (s_set 3 sc_most_looked.nd (d_callB (c_max2 rfl) (by rfl) T.n_max (by decide +kernel) (bs_cons (b_v 3) (bs_cons (b_d (d_op o_sub (b_d (d_callB c_len (by rfl) T.n_len (by decide +kernel) (bs_cons (b_v 5) bs_nil))) (b_d (d_callB c_len (by rfl) T.n_len (by decide +kernel) (bs_cons (b_v 2) bs_nil))))) bs_nil)))))))))
    (ss_one (s_ret (d_v 3)))))))
theorem D_look_small (hw0 : Wd.w = w) (T : Names K mg) (F : Std K mg "look_small" s_look_small ["book", "strength"]) (c_look_strength : DefD P w K mg base (zOf K ns) 5 "look_strength" ["book", "strength"] DM.f_look_strength) (c_tests_of : DefD P w K mg base (zOf K ns) 3 "tests_of" ["book"] DM.f_tests_of) : DefD P w K mg base (zOf K ns) 6 "look_small" ["book", "strength"] DM.f_look_small :=
  def_D hw0 F sc_look_small fun f cdv A' outer s H E A hZ hn hw hr tk =>
    (ss_cons (s_drop (d_call (c_look_strength.z hZ) tk (hr.mono (by omega)) (as_cons (d_v 0) (as_cons (d_v 1) as_nil))))
    (ss_one (s_if (t_cmp o_gt (b_d (d_callB c_len (by rfl) T.n_len (by decide +kernel) (bs_cons (b_d (d_call (c_tests_of.z hZ) tk (hr.mono (by omega)) (as_cons (d_v 0) as_nil))) bs_nil))) (b_d (d_kint T.k_MOST_SMALL)) (nomark _)) (ss_one (s_raise "TooBig" rfl tk T.ex hZ)) ss_nil)))
theorem D_fewest (hw0 : Wd.w = w) (T : Names K mg) (F : Std K mg "fewest" s_fewest ["book", "strength"]) (c_look_small : DefD P w K mg base (zOf K ns) 6 "look_small" ["book", "strength"] DM.f_look_small) : DefD P w K mg base (zOf K ns) 7 "fewest" ["book", "strength"] DM.f_fewest :=
  def_D hw0 F sc_fewest fun f cdv A' outer s H E A hZ hn hw hr tk =>
    (ss_cons (s_drop (d_call (c_look_small.z hZ) tk (hr.mono (by omega)) (as_cons (d_v 0) (as_cons (d_v 1) as_nil))))
    (ss_cons s_never
    (ss_cons (s_set 3 sc_fewest.nd d_int)
    (ss_one (s_while (passes_of rfl) (t_val (b_d d_bl)) (ss_cons s_never
    (ss_cons (s_if (t_notN (b_v 4)) (ss_one (s_ret (d_v 4))) ss_nil)
    (ss_one (s_aug 3 sc_fewest.nd d_int)))))))))
theorem D_apart (hw0 : Wd.w = w) (T : Names K mg) (F : Std K mg "apart" s_apart ["book", "strength"]) (c_look_small : DefD P w K mg base (zOf K ns) 6 "look_small" ["book", "strength"] DM.f_look_small) : DefD P w K mg base (zOf K ns) 7 "apart" ["book", "strength"] DM.f_apart :=
  def_D hw0 F sc_apart fun f cdv A' outer s H E A hZ hn hw hr tk =>
    (ss_cons (s_drop (d_call (c_look_small.z hZ) tk (hr.mono (by omega)) (as_cons (d_v 0) (as_cons (d_v 1) as_nil))))
    (ss_one s_never))
theorem D_look_rows (hw0 : Wd.w = w) (T : Names K mg) (F : Std K mg "look_rows" s_look_rows ["tests"]) (c_bad : BadI P w K mg base 1) (c_is_within : DefD P w K mg base (zOf K ns) 1 "is_within" ["thing", "low", "high"] DM.f_is_within) : DefD P w K mg base (zOf K ns) 3 "look_rows" ["tests"] DM.f_look_rows :=
  def_D hw0 F sc_look_rows fun f cdv A' outer s H E A hZ hn hw hr tk =>
    (ss_cons (s_if (t_not (t_val (b_d (d_isi T.n_isinstance (b_v 0) (pe_bltn (by rfl) T.n_list (by decide +kernel) rfl))))) (ss_one (s_raiseB (k := 1) rfl tk T.ex c_bad (hr.mono (by omega)) hZ d_int)) ss_nil)
    (ss_one (s_for (passes_of rfl) rfl (i_enumF T.n_enumerate (d_v 0)) (pg_tup rfl (pgs_cons (pg_name (i := 1) sc_look_rows.nd rfl (by first | exact Or.inl rfl | exact Or.inr rfl)) (pgs_cons (pg_name (i := 2) sc_look_rows.nd rfl (by first | exact Or.inl rfl | exact Or.inr rfl)) pgs_nil))) tgs_pair (ss_one (s_if (PW.pt (t_or (t_not (t_val (b_d (d_isi T.n_isinstance (b_v 2) (pe_bltn (by rfl) T.n_tuple (by decide +kernel) rfl))))) (t_or1 (t_val (b_d (d_o (o_lc (own := [("one", 3)]) rfl sc_look_rows.nd (i_seq (b_v 2)) (blkOk_by (own := [("one", 3)]) (N := N_look_rows) (sc := defScope s_look_rows) (by decide +kernel)) (fun _ _ _ _ _ => (pg_name (i := 3) sc_look_rows.nd rfl (by first | exact Or.inl rfl | exact Or.inr rfl))) tgs_name (fun _ _ _ _ _ => (ts_one (t_not (t_val (b_d (d_call (c_is_within.z hZ) takesW (hr.mono (by omega)) (as_cons (d_v 3) (as_cons d_int (as_cons d_int as_nil))))))))) (fun _ _ _ _ _ => (d_v 3))))))))) (ss_one (s_raiseB (k := 1) rfl tk T.ex c_bad (hr.mono (by omega)) hZ (d_v 1))) ss_nil)))))
theorem D_kept (hw0 : Wd.w = w) (T : Names K mg) (F : Std K mg "kept" s_kept ["book", "strength", "tests"]) (c_look_strength : DefD P w K mg base (zOf K ns) 5 "look_strength" ["book", "strength"] DM.f_look_strength) (c_look_rows : DefD P w K mg base (zOf K ns) 3 "look_rows" ["tests"] DM.f_look_rows) (c_is_allowed : DefD P w K mg base (zOf K ns) 2 "is_allowed" ["book", "test"] DM.f_is_allowed) (c_is_row : DefD P w K mg base (zOf K ns) 2 "is_row" ["levels", "thing"] DM.f_is_row) (c_possible_of : DefD P w K mg base (zOf K ns) 8 "possible_of" ["book", "strength"] DM.f_possible_of) (c_filled : DefD P w K mg base (zOf K ns) 4 "filled" ["book", "some", "tests"] DM.f_filled) (c_unmet : DefD P w K mg base (zOf K ns) 2 "unmet" ["some", "tests"] DM.f_unmet) : DefD P w K mg base (zOf K ns) 9 "kept" ["book", "strength", "tests"] DM.f_kept :=
  def_D hw0 F sc_kept fun f cdv A' outer s H E A hZ hn hw hr tk =>
    (ss_cons (s_drop (d_call (c_look_strength.z hZ) tk (hr.mono (by omega)) (as_cons (d_v 0) (as_cons (d_v 1) as_nil))))
    (ss_cons (s_drop (d_call (c_look_rows.z hZ) tk (hr.mono (by omega)) (as_cons (d_v 2) as_nil)))
    (ss_cons (s_setO 3 sc_kept.nd (o_lst as_nil))
    (ss_cons (s_for (passes_of rfl) rfl (i_seqF (d_v 2)) (pg_name (i := 4) sc_kept.nd rfl (by first | exact Or.inl rfl | exact Or.inr rfl)) tgs_name (ss_one (s_if (PW.pt (t_and (t_val (b_d (d_call (c_is_row.z hZ) tk (hr.mono (by omega)) (as_cons (d_ix o_ix (b_v 0) (b_d d_int) (fun _ _ => rfl)) (as_cons (d_v 4) as_nil))))) (t_and (t_val (b_d (d_call (c_is_allowed.z hZ) tk (hr.mono (by omega)) (as_cons (d_v 0) (as_cons (d_v 4) as_nil))))) (t_and1 (t_cmp (o_notIn (r65 hr)) (b_v 4) (b_v 3) (by with_unfolding_all rfl)))))) (ss_one (s_append 3 (d_v 4))) ss_nil)))
    (ss_cons (s_set 5 sc_kept.nd (d_call (c_possible_of.z hZ) tk (hr.mono (by omega)) (as_cons (d_v 0) (as_cons (d_v 1) as_nil))))
    (ss_cons (s_set 6 sc_kept.nd (d_o (o_lend 3 (o_call (c_filled.z hZ) tk (hr.mono (by omega)) (as_cons (d_v 0) (as_cons (d_v 5) (as_cons (d_v 3) as_nil)))))))
    (ss_cons (s_for (passes_of rfl) rfl (i_rng3 T.n_range (bs_cons (b_d (d_op o_sub (b_d (d_callB c_len (by rfl) T.n_len (by decide +kernel) (bs_cons (b_v 6) bs_nil))) (b_d d_int))) (bs_cons (b_d (d_op o_sub (b_d (d_callB c_len (by rfl) T.n_len (by decide +kernel) (bs_cons (b_v 3) bs_nil))) (b_d d_int))) (bs_cons (b_d (d_neg (b_d d_int))) bs_nil)))) (pg_name (i := 7) sc_kept.nd rfl (by first | exact Or.inl rfl | exact Or.inr rfl)) tgs_name (ss_one (s_if (t_not (t_val (b_d (d_call (c_unmet.z hZ) tk (hr.mono (by omega)) (as_cons (d_v 5) (as_cons (d_op o_add (b_d (d_slice s_any (b_v 6) p_none (p_some (b_v 7)))) (b_d (d_slice s_any (b_v 6) (p_some (b_d (d_op o_add (b_v 7) (b_d d_int)))) p_none))) as_nil)))))) (ss_one (s_set 6 sc_kept.nd (d_op o_add (b_d (d_slice s_any (b_v 6) p_none (p_some (b_v 7)))) (b_d (d_slice s_any (b_v 6) (p_some (b_d (d_op o_add (b_v 7) (b_d d_int)))) p_none))))) ss_nil)))
    (ss_one (s_ret (d_v 6))))))))))
theorem D_look_many (hw0 : Wd.w = w) (T : Names K mg) (F : Std K mg "look_many" s_look_many ["many"]) (c_is_within : DefD P w K mg base (zOf K ns) 1 "is_within" ["thing", "low", "high"] DM.f_is_within) : DefD P w K mg base (zOf K ns) 2 "look_many" ["many"] DM.f_look_many :=
  def_D hw0 F sc_look_many fun f cdv A' outer s H E A hZ hn hw hr tk =>
    (ss_one (s_if (t_not (t_val (b_d (d_call (c_is_within.z hZ) tk (hr.mono (by omega)) (as_cons (d_v 0) (as_cons d_int (as_cons (d_kint T.k_MOST_TESTS) as_nil))))))) (ss_one (s_raise "BadNumber" rfl tk T.ex hZ)) ss_nil))
theorem D_tree (hw0 : Wd.w = w) (T : Names K mg) (F : Std K mg "tree" s_tree ["yard", "left", "many"]) : DefD P w K mg base (zOf K ns) 1 "tree" ["yard", "left", "many"] DM.f_tree :=
  def_D hw0 F sc_tree fun f cdv A' outer s H E A hZ hn hw hr tk =>
    (ss_cons s_never
    (ss_cons (s_if (t_cmp (o_eq (r64 hr)) (b_v 2) (b_d d_int) (nomark _)) (ss_one (s_ret (d_tup (as_cons (d_v 4) (as_cons (d_tup as_nil) as_nil))))) ss_nil)
    (ss_cons (s_setO 5 sc_tree.nd (o_lst as_nil))
    (ss_cons s_never
    (ss_one (s_ret (d_tup (as_cons (d_v 4) (as_cons (d_callTy c_tuple (by rfl) T.n_tuple (by decide +kernel) (bs_cons (b_v 5) bs_nil)) as_nil)))))))))
theorem D_paper (hw0 : Wd.w = w) (T : Names K mg) (F : Std K mg "paper" s_paper ["book", "strength", "many"]) (c_look_small : DefD P w K mg base (zOf K ns) 6 "look_small" ["book", "strength"] DM.f_look_small) (c_look_many : DefD P w K mg base (zOf K ns) 2 "look_many" ["many"] DM.f_look_many) : DefD P w K mg base (zOf K ns) 7 "paper" ["book", "strength", "many"] DM.f_paper :=
  def_D hw0 F sc_paper fun f cdv A' outer s H E A hZ hn hw hr tk =>
    (ss_cons (s_drop (d_call (c_look_small.z hZ) tk (hr.mono (by omega)) (as_cons (d_v 0) (as_cons (d_v 1) as_nil))))
    (ss_cons (s_drop (d_call (c_look_many.z hZ) tk (hr.mono (by omega)) (as_cons (d_v 2) as_nil)))
    (ss_cons s_never
    (ss_cons s_never
    (ss_cons (s_if (t_cmp o_gt (b_d (d_callB c_len (by rfl) T.n_len (by decide +kernel) (bs_cons (b_v 4) bs_nil))) (b_v 2) (nomark _)) (ss_one (s_ret (d_tup (as_cons d_str (as_cons (d_slice s_any (b_v 4) p_none (p_some (b_d (d_op o_add (b_v 2) (b_d d_int))))) as_nil))))) ss_nil)
    (ss_cons s_never
    (ss_one s_never)))))))
theorem D_holds_apart (hw0 : Wd.w = w) (T : Names K mg) (F : Std K mg "holds_apart" s_holds_apart ["book", "strength", "many", "thing"]) (c_is_meeting : DefD P w K mg base (zOf K ns) 2 "is_meeting" ["levels", "thing", "least", "most"] DM.f_is_meeting) (c_tests_of : DefD P w K mg base (zOf K ns) 3 "tests_of" ["book"] DM.f_tests_of) (c_meets : DefD P w K mg base (zOf K ns) 1 "meets" ["test", "meeting"] DM.f_meets) : DefD P w K mg base (zOf K ns) 4 "holds_apart" ["book", "strength", "many", "thing"] DM.f_holds_apart :=
  def_D hw0 F sc_holds_apart fun f cdv A' outer s H E A hZ hn hw hr tk =>
    (ss_cons (s_if (PW.pt (t_or (t_not (t_val (b_d (d_isi T.n_isinstance (b_v 3) (pe_bltn (by rfl) T.n_list (by decide +kernel) rfl))))) (t_or1 (t_cmp o_le (b_d (d_callB c_len (by rfl) T.n_len (by decide +kernel) (bs_cons (b_v 3) bs_nil))) (b_v 2) (nomark _))))) (ss_one (s_ret d_bl)) ss_nil)
    (ss_cons (s_if (t_val (b_d (d_o (o_lc (own := [("one", 4)]) rfl sc_holds_apart.nd (i_seq (b_v 3)) (blkOk_by (own := [("one", 4)]) (N := N_holds_apart) (sc := defScope s_holds_apart) (by decide +kernel)) (fun _ _ _ _ _ => (pg_name (i := 4) sc_holds_apart.nd rfl (by first | exact Or.inl rfl | exact Or.inr rfl))) tgs_name (fun _ _ _ _ _ => (ts_one (t_not (t_val (b_d (d_call (c_is_meeting.z hZ) takesW (hr.mono (by omega)) (as_cons (d_ix o_ix (b_v 0) (b_d d_int) (fun _ _ => rfl)) (as_cons (d_v 4) (as_cons (d_v 1) (as_cons (d_v 1) as_nil)))))))))) (fun _ _ _ _ _ => (d_v 4)))))) (ss_one (s_ret d_bl)) ss_nil)
    (ss_cons (s_set 5 sc_holds_apart.nd (d_call (c_tests_of.z hZ) tk (hr.mono (by omega)) (as_cons (d_v 0) as_nil)))
    (ss_cons (s_for (passes_of rfl) rfl (i_enumF T.n_enumerate (d_v 3)) (pg_tup rfl (pgs_cons (pg_name (i := 6) sc_holds_apart.nd rfl (by first | exact Or.inl rfl | exact Or.inr rfl)) (pgs_cons (pg_name (i := 4) sc_holds_apart.nd rfl (by first | exact Or.inl rfl | exact Or.inr rfl)) pgs_nil))) tgs_pair (ss_cons (s_setLc 8 (own := [("test", 7)]) rfl sc_holds_apart.nd (sw_true rfl rfl rfl (by decide +kernel)) (i_seq (b_v 5)) (blkOk_by (own := [("test", 7)]) (N := N_holds_apart) (sc := defScope s_holds_apart) (by decide +kernel)) (fun _ _ _ _ _ => (pg_name (i := 7) sc_holds_apart.nd rfl (by first | exact Or.inl rfl | exact Or.inr rfl))) tgs_name (fun _ _ _ _ _ => (ts_one (t_val (b_d (d_call (c_meets.z hZ) takesW (hr.mono (by omega)) (as_cons (d_v 7) (as_cons (d_v 4) as_nil))))))) (fun _ _ _ _ _ => (d_v 7)))
    (ss_cons (s_for (passes_of rfl) rfl (i_seqF (d_slice s_any (b_v 3) p_none (p_some (b_v 6)))) (pg_name (i := 9) sc_holds_apart.nd rfl (by first | exact Or.inl rfl | exact Or.inr rfl)) tgs_name (ss_one (s_if (t_val (b_d (d_o (o_lc (own := [("test", 7)]) rfl sc_holds_apart.nd (i_seq (b_v 8)) (blkOk_by (own := [("test", 7)]) (N := N_holds_apart) (sc := defScope s_holds_apart) (by decide +kernel)) (fun _ _ _ _ _ => (pg_name (i := 7) sc_holds_apart.nd rfl (by first | exact Or.inl rfl | exact Or.inr rfl))) tgs_name (fun _ _ _ _ _ => (ts_one (t_val (b_d (d_call (c_meets.z hZ) takesW (hr.mono (by omega)) (as_cons (d_v 7) (as_cons (d_v 9) as_nil))))))) (fun _ _ _ _ _ => (d_v 7)))))) (ss_one (s_ret d_bl)) ss_nil)))
    (ss_one (s_if (t_not (t_val (b_v 8))) (ss_one (s_ret d_bl)) ss_nil)))))
    (ss_one (s_ret d_bl))))))
theorem D_holds_tree (hw0 : Wd.w = w) (T : Names K mg) (F : Std K mg "holds_tree" s_holds_tree ["book", "strength", "taken", "many", "thing"]) (c_is_meeting : DefD P w K mg base (zOf K ns) 2 "is_meeting" ["levels", "thing", "least", "most"] DM.f_is_meeting) (c_tests_of : DefD P w K mg base (zOf K ns) 3 "tests_of" ["book"] DM.f_tests_of) (c_meets : DefD P w K mg base (zOf K ns) 1 "meets" ["test", "meeting"] DM.f_meets) (c_unmet : DefD P w K mg base (zOf K ns) 2 "unmet" ["some", "tests"] DM.f_unmet) : DefD P w K mg base (zOf K ns) 4 "holds_tree" ["book", "strength", "taken", "many", "thing"] DM.f_holds_tree :=
  def_D hw0 F sc_holds_tree fun f cdv A' outer s H E A hZ hn hw hr tk =>
    (ss_cons (s_if (PW.pt (t_or (t_not (t_val (b_d (d_isi T.n_isinstance (b_v 4) (pe_bltn (by rfl) T.n_tuple (by decide +kernel) rfl))))) (t_or (t_cmp (o_ne (r64 hr)) (b_d (d_callB c_len (by rfl) T.n_len (by decide +kernel) (bs_cons (b_v 4) bs_nil))) (b_d d_int) (nomark _)) (t_or1 (t_not (t_val (b_d (d_call (c_is_meeting.z hZ) tk (hr.mono (by omega)) (as_cons (d_ix o_ix (b_v 0) (b_d d_int) (fun _ _ => rfl)) (as_cons (d_ix o_ix (b_v 4) (b_d d_int) (fun _ _ => rfl)) (as_cons (d_v 1) (as_cons (d_v 1) as_nil)))))))))))) (ss_one (s_ret d_bl)) ss_nil)
    (ss_cons (s_setLc 6 (own := [("test", 5)]) rfl sc_holds_tree.nd (sw_true rfl rfl rfl (by decide +kernel)) (i_seq (b_d (d_call (c_tests_of.z hZ) tk (hr.mono (by omega)) (as_cons (d_v 0) as_nil)))) (blkOk_by (own := [("test", 5)]) (N := N_holds_tree) (sc := defScope s_holds_tree) (by decide +kernel)) (fun _ _ _ _ _ => (pg_name (i := 5) sc_holds_tree.nd rfl (by first | exact Or.inl rfl | exact Or.inr rfl))) tgs_name (fun _ _ _ _ _ => (ts_one (t_val (b_d (d_call (c_meets.z hZ) takesW (hr.mono (by omega)) (as_cons (d_v 5) (as_cons (d_ix o_ix (b_v 4) (b_d d_int) (fun _ _ => rfl)) as_nil))))))) (fun _ _ _ _ _ => (d_v 5)))
    (ss_cons (s_if (PW.pt (t_or (t_not (t_val (b_v 6))) (t_or (t_not (t_val (b_d (d_isi T.n_isinstance (b_d (d_ix o_ix (b_v 4) (b_d d_int) (fun _ _ => rfl))) (pe_bltn (by rfl) T.n_tuple (by decide +kernel) rfl))))) (t_or1 (t_not (t_val (b_d (d_call (c_unmet.z hZ) tk (hr.mono (by omega)) (as_cons (d_o (o_lst (as_cons (d_ix o_ix (b_v 4) (b_d d_int) (fun _ _ => rfl)) as_nil))) (as_cons (d_v 2) as_nil)))))))))) (ss_one (s_ret d_bl)) ss_nil)
    (ss_cons (s_if (t_cmp (o_eq (r64 hr)) (b_v 3) (b_d d_int) (nomark _)) (ss_one (s_ret (d_cmp (o_eq (r64 hr)) (b_d (d_ix o_ix (b_v 4) (b_d d_int) (fun _ _ => rfl))) (b_d (d_tup as_nil)) (nomark _)))) ss_nil)
    (ss_cons (s_if (t_cmp (o_ne (r64 hr)) (b_d (d_callB c_len (by rfl) T.n_len (by decide +kernel) (bs_cons (b_d (d_ix o_ix (b_v 4) (b_d d_int) (fun _ _ => rfl))) bs_nil))) (b_d (d_callB c_len (by rfl) T.n_len (by decide +kernel) (bs_cons (b_v 6) bs_nil))) (nomark _)) (ss_one (s_ret d_bl)) ss_nil)
    (ss_cons s_never
    (ss_one (s_ret d_bl))))))))
theorem D_is_paper (hw0 : Wd.w = w) (T : Names K mg) (F : Std K mg "is_paper" s_is_paper ["book", "strength", "many", "thing"]) (c_look_strength : DefD P w K mg base (zOf K ns) 5 "look_strength" ["book", "strength"] DM.f_look_strength) (c_look_many : DefD P w K mg base (zOf K ns) 2 "look_many" ["many"] DM.f_look_many) (c_holds_apart : DefD P w K mg base (zOf K ns) 4 "holds_apart" ["book", "strength", "many", "thing"] DM.f_holds_apart) (c_holds_tree : DefD P w K mg base (zOf K ns) 4 "holds_tree" ["book", "strength", "taken", "many", "thing"] DM.f_holds_tree) : DefD P w K mg base (zOf K ns) 6 "is_paper" ["book", "strength", "many", "thing"] DM.f_is_paper :=
  def_D hw0 F sc_is_paper fun f cdv A' outer s H E A hZ hn hw hr tk =>
    (ss_cons (s_drop (d_call (c_look_strength.z hZ) tk (hr.mono (by omega)) (as_cons (d_v 0) (as_cons (d_v 1) as_nil))))
    (ss_cons (s_drop (d_call (c_look_many.z hZ) tk (hr.mono (by omega)) (as_cons (d_v 2) as_nil)))
    (ss_cons (s_if (PW.pt (t_or (t_not (t_val (b_d (d_isi T.n_isinstance (b_v 3) (pe_bltn (by rfl) T.n_tuple (by decide +kernel) rfl))))) (t_or (t_cmp (o_ne (r64 hr)) (b_d (d_callB c_len (by rfl) T.n_len (by decide +kernel) (bs_cons (b_v 3) bs_nil))) (b_d d_int) (nomark _)) (t_or1 (t_not (t_val (b_d (d_isi T.n_isinstance (b_d (d_ix o_ix (b_v 3) (b_d d_int) (fun _ _ => rfl))) (pe_bltn (by rfl) T.n_str (by decide +kernel) rfl))))))))) (ss_one (s_ret d_bl)) ss_nil)
    (ss_cons (s_if (t_cmp (o_eq (r64 hr)) (b_d (d_ix o_ix (b_v 3) (b_d d_int) (fun _ _ => rfl))) (b_d d_str) (nomark _)) (ss_one (s_ret (d_call (c_holds_apart.z hZ) tk (hr.mono (by omega)) (as_cons (d_v 0) (as_cons (d_v 1) (as_cons (d_v 2) (as_cons (d_ix o_ix (b_v 3) (b_d d_int) (fun _ _ => rfl)) as_nil))))))) ss_nil)
    (ss_one (s_ret (d_and (d_cmp (o_eq (r64 hr)) (b_d (d_ix o_ix (b_v 3) (b_d d_int) (fun _ _ => rfl))) (b_d d_str) (nomark _)) (d_one (d_call (c_holds_tree.z hZ) tk (hr.mono (by omega)) (as_cons (d_v 0) (as_cons (d_v 1) (as_cons (d_o (o_lst as_nil)) (as_cons (d_v 2) (as_cons (d_ix o_ix (b_v 3) (b_d d_int) (fun _ _ => rfl)) as_nil))))))))))))))
theorem D_l_cell (hw0 : Wd.w = w) (T : Names K mg) (F : Std K mg "_law_cell" s_l_cell ["_law_script", "_law_k"]) : DefD P w K mg base (zOf K ns) 1 "_law_cell" ["_law_script", "_law_k"] DM.f_l_cell :=
  def_D hw0 F sc_l_cell fun f cdv A' outer s H E A hZ hn hw hr tk =>
    (ss_cons (s_if (t_cmp o_lt (b_v 1) (b_d (d_callB c_len (by rfl) T.n_len (by decide +kernel) (bs_cons (b_v 0) bs_nil))) (nomark _)) (ss_one (s_ret (d_ix o_ix (b_v 0) (b_v 1) (fun _ _ => rfl)))) ss_nil)
    (ss_one (s_ret d_int)))
theorem D_l_mix (hw0 : Wd.w = w) (T : Names K mg) (F : Std K mg "_law_mix" s_l_mix ["_law_cell_here", "_law_prime", "_law_many"]) : DefD P w K mg base (zOf K ns) 1 "_law_mix" ["_law_cell_here", "_law_prime", "_law_many"] DM.f_l_mix :=
  def_D hw0 F sc_l_mix fun f cdv A' outer s H E A hZ hn hw hr tk =>
    (ss_one (s_ret (d_op o_mod (b_d (d_op o_mod (b_d (d_op o_mul (b_v 0) (b_d d_int))) (b_v 1))) (b_v 2))))
theorem D_l_book (hw0 : Wd.w = w) (T : Names K mg) (F : Std K mg "_law_book" s_l_book ["_law_script", "_law_at"]) (c_l_cell : DefD P w K mg base (zOf K ns) 1 "_law_cell" ["_law_script", "_law_k"] DM.f_l_cell) (c_l_mix : DefD P w K mg base (zOf K ns) 1 "_law_mix" ["_law_cell_here", "_law_prime", "_law_many"] DM.f_l_mix) : DefD P w K mg base (zOf K ns) 2 "_law_book" ["_law_script", "_law_at"] DM.f_l_book :=
  def_D hw0 F sc_l_book fun f cdv A' outer s H E A hZ hn hw hr tk =>
    (ss_cons (s_set 2 sc_l_book.nd (d_call (c_l_cell.z hZ) tk (hr.mono (by omega)) (as_cons (d_v 0) (as_cons (d_v 1) as_nil))))
    (ss_cons (s_set 3 sc_l_book.nd (d_op o_add (b_d d_int) (b_d (d_call (c_l_mix.z hZ) tk (hr.mono (by omega)) (as_cons (d_v 2) (as_cons d_int (as_cons d_int as_nil)))))))
    (ss_cons (s_setO 4 sc_l_book.nd (o_lst as_nil))
    (ss_cons (s_for (passes_of rfl) rfl (i_rng1 T.n_range (bs_cons (b_v 3) bs_nil)) (pg_name (i := 5) sc_l_book.nd rfl (by first | exact Or.inl rfl | exact Or.inr rfl)) tgs_name (ss_cons (s_set 6 sc_l_book.nd d_int)
    (ss_cons (s_if (PW.pt (t_or (t_cmp o_lt (b_v 5) (b_d d_int) (nomark _)) (t_or1 (t_cmp o_gt (b_d (d_callB c_len (by rfl) T.n_len (by decide +kernel) (bs_cons (b_v 0) bs_nil))) (b_d d_int) (nomark _))))) (ss_one (s_set 6 sc_l_book.nd d_int)) ss_nil)
    (ss_one (s_append 4 (d_op o_add (b_d d_int) (b_d (d_call (c_l_mix.z hZ) tk (hr.mono (by omega)) (as_cons (d_op o_add (b_d (d_op o_add (b_d (d_call (c_l_cell.z hZ) tk (hr.mono (by omega)) (as_cons (d_v 0) (as_cons (d_op o_add (b_v 1) (b_d d_int)) as_nil)))) (b_d (d_op o_mul (b_d (d_op o_mul (b_d d_int) (b_v 5))) (b_v 5))))) (b_v 5)) (as_cons d_int (as_cons (d_v 6) as_nil)))))))))))
    (ss_cons (s_setO 7 sc_l_book.nd (o_lst as_nil))
    (ss_cons (s_for (passes_of rfl) rfl (i_rng1 T.n_range (bs_cons (b_d (d_call (c_l_mix.z hZ) tk (hr.mono (by omega)) (as_cons (d_v 2) (as_cons d_int (as_cons d_int as_nil))))) bs_nil)) (pg_name (i := 5) sc_l_book.nd rfl (by first | exact Or.inl rfl | exact Or.inr rfl)) tgs_name (ss_cons (s_set 8 sc_l_book.nd (d_op o_add (b_d (d_op o_add (b_d (d_call (c_l_cell.z hZ) tk (hr.mono (by omega)) (as_cons (d_v 0) (as_cons (d_op o_add (b_v 1) (b_d d_int)) as_nil)))) (b_d (d_op o_mul (b_d (d_op o_mul (b_d d_int) (b_v 5))) (b_v 5))))) (b_d (d_op o_mul (b_d d_int) (b_v 5)))))
    (ss_cons (s_set 10 sc_l_book.nd (d_slice s_any (b_d (d_o (o_lc (own := [("_law_thing", 9)]) rfl sc_l_book.nd (ih_f (i_rng1 T.n_range (bs_cons (b_v 3) bs_nil))) (blkOk_by (own := [("_law_thing", 9)]) (N := N_l_book) (sc := defScope s_l_book) (by decide +kernel)) (fun _ _ _ _ _ => (pg_name (i := 9) sc_l_book.nd rfl (by first | exact Or.inl rfl | exact Or.inr rfl))) tgs_name (fun _ _ _ _ _ => (ts_one (t_cmp (o_eq (r64 hr)) (b_d (d_call (c_l_mix.z hZ) takesW (hr.mono (by omega)) (as_cons (d_op o_add (b_v 8) (b_d (d_op o_mul (b_d d_int) (b_v 9)))) (as_cons d_int (as_cons d_int as_nil))))) (b_d d_int) (nomark _)))) (fun _ _ _ _ _ => (d_v 9))))) p_none (p_some (b_d d_int))))
    (ss_cons (s_if (t_cmp (o_eq (r64 hr)) (b_v 10) (b_d (d_o (o_lst as_nil))) (nomark _)) (ss_one (s_set 10 sc_l_book.nd (d_o (o_lst (as_cons (d_call (c_l_mix.z hZ) tk (hr.mono (by omega)) (as_cons (d_v 8) (as_cons d_int (as_cons (d_v 3) as_nil)))) as_nil))))) ss_nil)
    (ss_one (s_append 7 (d_callTy c_tuple (by rfl) T.n_tuple (by decide +kernel) (bs_cons (b_d (d_o (o_lc (own := [("_law_thing", 9)]) rfl sc_l_book.nd (i_seq (b_v 10)) (blkOk_by (own := [("_law_thing", 9)]) (N := N_l_book) (sc := defScope s_l_book) (by decide +kernel)) (fun _ _ _ _ _ => (pg_name (i := 9) sc_l_book.nd rfl (by first | exact Or.inl rfl | exact Or.inr rfl))) tgs_name (fun _ _ _ _ _ => ts_nil) (fun _ _ _ _ _ => (d_tup (as_cons (d_v 9) (as_cons (d_call (c_l_mix.z hZ) takesW (hr.mono (by omega)) (as_cons (d_op o_add (b_v 8) (b_d (d_op o_mul (b_d d_int) (b_v 9)))) (as_cons d_int (as_cons (d_ix o_ix (b_v 4) (b_v 9) (fun _ _ => rfl)) as_nil)))) as_nil))))))) bs_nil))))))))
    (ss_one (s_ret (d_tup (as_cons (d_callTy c_tuple (by rfl) T.n_tuple (by decide +kernel) (bs_cons (b_v 4) bs_nil)) (as_cons (d_callTy c_tuple (by rfl) T.n_tuple (by decide +kernel) (bs_cons (b_v 7) bs_nil)) as_nil)))))))))))
theorem D_l_rows (hw0 : Wd.w = w) (T : Names K mg) (F : Std K mg "_law_rows" s_l_rows ["_law_levels"]) : DefD P w K mg base (zOf K ns) 1 "_law_rows" ["_law_levels"] DM.f_l_rows :=
  def_D hw0 F sc_l_rows fun f cdv A' outer s H E A hZ hn hw hr tk =>
    (ss_cons (s_set 1 sc_l_rows.nd (d_o (o_lst (as_cons (d_tup as_nil) as_nil))))
    (ss_cons (s_for (passes_of rfl) rfl (i_seqF (d_v 0)) (pg_name (i := 2) sc_l_rows.nd rfl (by first | exact Or.inl rfl | exact Or.inr rfl)) tgs_name (ss_cons (s_set 3 sc_l_rows.nd (d_o (o_lst as_nil)))
    (ss_cons (s_for (passes_of rfl) rfl (i_seqF (d_v 1)) (pg_name (i := 4) sc_l_rows.nd rfl (by first | exact Or.inl rfl | exact Or.inr rfl)) tgs_name (ss_one (s_set 3 sc_l_rows.nd (d_op o_add (b_v 3) (b_d (d_o (o_lc (own := [("_law_setting", 5)]) rfl sc_l_rows.nd (ih_f (i_rng1 T.n_range (bs_cons (b_v 2) bs_nil))) (blkOk_by (own := [("_law_setting", 5)]) (N := N_l_rows) (sc := defScope s_l_rows) (by decide +kernel)) (fun _ _ _ _ _ => (pg_name (i := 5) sc_l_rows.nd rfl (by first | exact Or.inl rfl | exact Or.inr rfl))) tgs_name (fun _ _ _ _ _ => ts_nil) (fun _ _ _ _ _ => (d_op o_add (b_v 4) (b_d (d_tup (as_cons (d_v 5) as_nil))))))))))))
    (ss_one (s_set 1 sc_l_rows.nd (d_v 3))))))
    (ss_one (s_ret (d_v 1)))))
theorem D_l_meets (hw0 : Wd.w = w) (T : Names K mg) (F : Std K mg "_law_meets" s_l_meets ["_law_test", "_law_meeting"]) : DefD P w K mg base (zOf K ns) 1 "_law_meets" ["_law_test", "_law_meeting"] DM.f_l_meets :=
  def_D hw0 F sc_l_meets fun f cdv A' outer s H E A hZ hn hw hr tk =>
    (ss_one (s_ret (d_cmp (o_eq (r64 hr)) (b_d (d_o (o_lc (own := [("_law_pair", 2)]) rfl sc_l_meets.nd (i_seq (b_v 1)) (blkOk_by (own := [("_law_pair", 2)]) (N := N_l_meets) (sc := defScope s_l_meets) (by decide +kernel)) (fun _ _ _ _ _ => (pg_name (i := 2) sc_l_meets.nd rfl (by first | exact Or.inl rfl | exact Or.inr rfl))) tgs_name (fun _ _ _ _ _ => (ts_one (t_cmp (o_ne (r64 hr)) (b_d (d_ix o_ix (b_v 0) (b_d (d_ix o_ix (b_v 2) (b_d d_int) (fun _ _ => rfl))) (fun _ _ => rfl))) (b_d (d_ix o_ix (b_v 2) (b_d d_int) (fun _ _ => rfl))) (nomark _)))) (fun _ _ _ _ _ => (d_v 2))))) (b_d (d_o (o_lst as_nil))) (nomark _))))
theorem D_l_tests (hw0 : Wd.w = w) (T : Names K mg) (F : Std K mg "_law_tests" s_l_tests ["_law_book_here"]) (c_l_rows : DefD P w K mg base (zOf K ns) 1 "_law_rows" ["_law_levels"] DM.f_l_rows) (c_l_meets : DefD P w K mg base (zOf K ns) 1 "_law_meets" ["_law_test", "_law_meeting"] DM.f_l_meets) : DefD P w K mg base (zOf K ns) 2 "_law_tests" ["_law_book_here"] DM.f_l_tests :=
  def_D hw0 F sc_l_tests fun f cdv A' outer s H E A hZ hn hw hr tk =>
    (ss_cons (s_setO 1 sc_l_tests.nd (o_lst as_nil))
    (ss_cons (s_for (passes_of rfl) rfl (i_seqF (d_call (c_l_rows.z hZ) tk (hr.mono (by omega)) (as_cons (d_ix o_ix (b_v 0) (b_d d_int) (fun _ _ => rfl)) as_nil))) (pg_name (i := 2) sc_l_tests.nd rfl (by first | exact Or.inl rfl | exact Or.inr rfl)) tgs_name (ss_one (s_if (t_cmp (o_eq (r64 hr)) (b_d (d_o (o_lc (own := [("_law_ban", 3)]) rfl sc_l_tests.nd (i_seq (b_d (d_ix o_ix (b_v 0) (b_d d_int) (fun _ _ => rfl)))) (blkOk_by (own := [("_law_ban", 3)]) (N := N_l_tests) (sc := defScope s_l_tests) (by decide +kernel)) (fun _ _ _ _ _ => (pg_name (i := 3) sc_l_tests.nd rfl (by first | exact Or.inl rfl | exact Or.inr rfl))) tgs_name (fun _ _ _ _ _ => (ts_one (t_val (b_d (d_call (c_l_meets.z hZ) takesW (hr.mono (by omega)) (as_cons (d_v 2) (as_cons (d_v 3) as_nil))))))) (fun _ _ _ _ _ => (d_v 3))))) (b_d (d_o (o_lst as_nil))) (nomark _)) (ss_one (s_append 1 (d_v 2))) ss_nil)))
    (ss_one (s_retV 1))))
theorem D_l_drawn (hw0 : Wd.w = w) (T : Names K mg) (F : Std K mg "_law_drawn" s_l_drawn ["_law_script", "_law_at", "_law_book_here", "_law_most"]) (c_l_tests : DefD P w K mg base (zOf K ns) 2 "_law_tests" ["_law_book_here"] DM.f_l_tests) (c_l_mix : DefD P w K mg base (zOf K ns) 1 "_law_mix" ["_law_cell_here", "_law_prime", "_law_many"] DM.f_l_mix) (c_l_cell : DefD P w K mg base (zOf K ns) 1 "_law_cell" ["_law_script", "_law_k"] DM.f_l_cell) : DefD P w K mg base (zOf K ns) 3 "_law_drawn" ["_law_script", "_law_at", "_law_book_here", "_law_most"] DM.f_l_drawn :=
  def_D hw0 F sc_l_drawn fun f cdv A' outer s H E A hZ hn hw hr tk =>
    (ss_cons (s_set 4 sc_l_drawn.nd (d_call (c_l_tests.z hZ) tk (hr.mono (by omega)) (as_cons (d_v 2) as_nil)))
    (ss_cons (s_setO 5 sc_l_drawn.nd (o_lst as_nil))
    (ss_cons (s_if (t_cmp (o_ne (r64 hr)) (b_v 4) (b_d (d_o (o_lst as_nil))) (nomark _)) (ss_one (s_for (passes_of rfl) rfl (i_rng1 T.n_range (bs_cons (b_d (d_call (c_l_mix.z hZ) tk (hr.mono (by omega)) (as_cons (d_call (c_l_cell.z hZ) tk (hr.mono (by omega)) (as_cons (d_v 0) (as_cons (d_v 1) as_nil))) (as_cons d_int (as_cons (d_op o_add (b_v 3) (b_d d_int)) as_nil))))) bs_nil)) (pg_name (i := 6) sc_l_drawn.nd rfl (by first | exact Or.inl rfl | exact Or.inr rfl)) tgs_name (ss_one (s_append 5 (d_ix o_ix (b_v 4) (b_d (d_call (c_l_mix.z hZ) tk (hr.mono (by omega)) (as_cons (d_op o_add (b_d (d_op o_add (b_d (d_call (c_l_cell.z hZ) tk (hr.mono (by omega)) (as_cons (d_v 0) (as_cons (d_v 1) as_nil)))) (b_d (d_op o_mul (b_d (d_op o_mul (b_d d_int) (b_v 6))) (b_v 6))))) (b_v 6)) (as_cons d_int (as_cons (d_callB c_len (by rfl) T.n_len (by decide +kernel) (bs_cons (b_v 4) bs_nil)) as_nil))))) (fun _ _ => rfl)))))) ss_nil)
    (ss_one (s_retV 5)))))
theorem D_l_by_strength (hw0 : Wd.w = w) (T : Names K mg) (F : Std K mg "_law_by_strength" s_l_by_strength ["_law_way", "_law_book_here", "_law_bad"]) (c_all_meetings : DefD P w K mg base (zOf K ns) 8 "all_meetings" ["book", "strength"] DM.f_all_meetings) (c_possible : DefD P w K mg base (zOf K ns) 9 "possible" ["book", "strength"] DM.f_possible) (c_impossible : DefD P w K mg base (zOf K ns) 9 "impossible" ["book", "strength"] DM.f_impossible) (c_missing : DefD P w K mg base (zOf K ns) 9 "missing" ["book", "strength", "tests"] DM.f_missing) (c_needless : DefD P w K mg base (zOf K ns) 9 "needless" ["book", "strength", "tests"] DM.f_needless) (c_trimmed : DefD P w K mg base (zOf K ns) 9 "trimmed" ["book", "strength", "tests"] DM.f_trimmed) (c_in_order : DefD P w K mg base (zOf K ns) 9 "in_order" ["book", "strength", "tests"] DM.f_in_order) (c_built : DefD P w K mg base (zOf K ns) 9 "built" ["book", "strength"] DM.f_built) : DefD P w K mg base (zOf K ns) 10 "_law_by_strength" ["_law_way", "_law_book_here", "_law_bad"] DM.f_l_by_strength :=
  def_D hw0 F sc_l_by_strength fun f cdv A' outer s H E A hZ hn hw hr tk =>
    (ss_cons (s_if (t_cmp (o_eq (r64 hr)) (b_v 0) (b_d d_int) (nomark _)) (ss_one (s_retO (o_call (c_all_meetings.z hZ) tk (hr.mono (by omega)) (as_cons (d_v 1) (as_cons (d_v 2) as_nil))))) ss_nil)
    (ss_cons (s_if (t_cmp (o_eq (r64 hr)) (b_v 0) (b_d d_int) (nomark _)) (ss_one (s_retO (o_call (c_possible.z hZ) tk (hr.mono (by omega)) (as_cons (d_v 1) (as_cons (d_v 2) as_nil))))) ss_nil)
    (ss_cons (s_if (t_cmp (o_eq (r64 hr)) (b_v 0) (b_d d_int) (nomark _)) (ss_one (s_retO (o_call (c_impossible.z hZ) tk (hr.mono (by omega)) (as_cons (d_v 1) (as_cons (d_v 2) as_nil))))) ss_nil)
    (ss_cons (s_if (t_cmp (o_eq (r64 hr)) (b_v 0) (b_d d_int) (nomark _)) (ss_one (s_retO (o_call (c_missing.z hZ) tk (hr.mono (by omega)) (as_cons (d_v 1) (as_cons (d_v 2) (as_cons d_non as_nil)))))) ss_nil)
    (ss_cons (s_if (t_cmp (o_eq (r64 hr)) (b_v 0) (b_d d_int) (nomark _)) (ss_one (s_retO (o_call (c_needless.z hZ) tk (hr.mono (by omega)) (as_cons (d_v 1) (as_cons (d_v 2) (as_cons d_non as_nil)))))) ss_nil)
    (ss_cons (s_if (t_cmp (o_eq (r64 hr)) (b_v 0) (b_d d_int) (nomark _)) (ss_one (s_retO (o_call (c_trimmed.z hZ) tk (hr.mono (by omega)) (as_cons (d_v 1) (as_cons (d_v 2) (as_cons d_non as_nil)))))) ss_nil)
    (ss_cons (s_if (t_cmp (o_eq (r64 hr)) (b_v 0) (b_d d_int) (nomark _)) (ss_one (s_retO (o_call (c_in_order.z hZ) tk (hr.mono (by omega)) (as_cons (d_v 1) (as_cons (d_v 2) (as_cons d_non as_nil)))))) ss_nil)
    (ss_one (s_retO (o_call (c_built.z hZ) tk (hr.mono (by omega)) (as_cons (d_v 1) (as_cons (d_v 2) as_nil))))))))))))
theorem D_l_more (hw0 : Wd.w = w) (T : Names K mg) (F : Std K mg "_law_more" s_l_more ["_law_way", "_law_book_here", "_law_bad"]) (c_fewest : DefD P w K mg base (zOf K ns) 7 "fewest" ["book", "strength"] DM.f_fewest) (c_apart : DefD P w K mg base (zOf K ns) 7 "apart" ["book", "strength"] DM.f_apart) (c_paper : DefD P w K mg base (zOf K ns) 7 "paper" ["book", "strength", "many"] DM.f_paper) (c_is_paper : DefD P w K mg base (zOf K ns) 6 "is_paper" ["book", "strength", "many", "thing"] DM.f_is_paper) (c_kept : DefD P w K mg base (zOf K ns) 9 "kept" ["book", "strength", "tests"] DM.f_kept) (c_suspects : DefD P w K mg base (zOf K ns) 10 "suspects" ["book", "strength", "tests", "results"] DM.f_suspects) (c_blurred : DefD P w K mg base (zOf K ns) 9 "blurred" ["book", "strength", "tests"] DM.f_blurred) : DefD P w K mg base (zOf K ns) 11 "_law_more" ["_law_way", "_law_book_here", "_law_bad"] DM.f_l_more_02 :=
  def_D hw0 F sc_l_more fun f cdv A' outer s H E A hZ hn hw hr tk =>
    (ss_cons (s_if (t_cmp (o_eq (r64 hr)) (b_v 0) (b_d d_int) (nomark _)) (ss_one (s_ret (d_call (c_fewest.z hZ) tk (hr.mono (by omega)) (as_cons (d_v 1) (as_cons (d_v 2) as_nil))))) ss_nil)
    (ss_cons (s_if (t_cmp (o_eq (r64 hr)) (b_v 0) (b_d d_int) (nomark _)) (ss_one (s_ret (d_call (c_apart.z hZ) tk (hr.mono (by omega)) (as_cons (d_v 1) (as_cons (d_v 2) as_nil))))) ss_nil)
    (ss_cons (s_if (t_cmp (o_eq (r64 hr)) (b_v 0) (b_d d_int) (nomark _)) (ss_one (s_ret (d_call (c_paper.z hZ) tk (hr.mono (by omega)) (as_cons (d_v 1) (as_cons (d_v 2) (as_cons d_non as_nil)))))) ss_nil)
    (ss_cons (s_if (t_cmp (o_eq (r64 hr)) (b_v 0) (b_d d_int) (nomark _)) (ss_one (s_ret (d_call (c_is_paper.z hZ) tk (hr.mono (by omega)) (as_cons (d_v 1) (as_cons (d_v 2) (as_cons d_non (as_cons d_non as_nil))))))) ss_nil)
    (ss_cons (s_if (t_cmp (o_eq (r64 hr)) (b_v 0) (b_d d_int) (nomark _)) (ss_one (s_ret (d_call (c_kept.z hZ) tk (hr.mono (by omega)) (as_cons (d_v 1) (as_cons (d_v 2) (as_cons d_non as_nil)))))) ss_nil)
    (ss_cons (s_if (t_cmp (o_eq (r64 hr)) (b_v 0) (b_d d_int) (nomark _)) (ss_one (s_retO (o_call (c_suspects.z hZ) tk (hr.mono (by omega)) (as_cons (d_v 1) (as_cons (d_v 2) (as_cons d_non (as_cons d_non as_nil))))))) ss_nil)
    (ss_one (s_retO (o_call (c_blurred.z hZ) tk (hr.mono (by omega)) (as_cons (d_v 1) (as_cons (d_v 2) (as_cons d_non as_nil))))))))))))
theorem D_l_by_tests (hw0 : Wd.w = w) (T : Names K mg) (F : Std K mg "_law_by_tests" s_l_by_tests ["_law_way", "_law_book_here", "_law_bad"]) (c_missing : DefD P w K mg base (zOf K ns) 9 "missing" ["book", "strength", "tests"] DM.f_missing) (c_is_cover : DefD P w K mg base (zOf K ns) 10 "is_cover" ["book", "strength", "tests"] DM.f_is_cover) (c_needless : DefD P w K mg base (zOf K ns) 9 "needless" ["book", "strength", "tests"] DM.f_needless) (c_trimmed : DefD P w K mg base (zOf K ns) 9 "trimmed" ["book", "strength", "tests"] DM.f_trimmed) (c_in_order : DefD P w K mg base (zOf K ns) 9 "in_order" ["book", "strength", "tests"] DM.f_in_order) (c_suspects : DefD P w K mg base (zOf K ns) 10 "suspects" ["book", "strength", "tests", "results"] DM.f_suspects) (c_blurred : DefD P w K mg base (zOf K ns) 9 "blurred" ["book", "strength", "tests"] DM.f_blurred) (c_most_looked : DefD P w K mg base (zOf K ns) 12 "most_looked" ["book", "strength", "tests"] DM.f_most_looked) : DefD P w K mg base (zOf K ns) 13 "_law_by_tests" ["_law_way", "_law_book_here", "_law_bad"] DM.f_l_by_tests :=
  def_D hw0 F sc_l_by_tests fun f cdv A' outer s H E A hZ hn hw hr tk =>
    (ss_cons (s_if (t_cmp (o_eq (r64 hr)) (b_v 0) (b_d d_int) (nomark _)) (ss_one (s_retO (o_call (c_missing.z hZ) tk (hr.mono (by omega)) (as_cons (d_v 1) (as_cons d_int (as_cons (d_v 2) as_nil)))))) ss_nil)
    (ss_cons (s_if (t_cmp (o_eq (r64 hr)) (b_v 0) (b_d d_int) (nomark _)) (ss_one (s_ret (d_call (c_is_cover.z hZ) tk (hr.mono (by omega)) (as_cons (d_v 1) (as_cons d_int (as_cons (d_v 2) as_nil)))))) ss_nil)
    (ss_cons (s_if (t_cmp (o_eq (r64 hr)) (b_v 0) (b_d d_int) (nomark _)) (ss_one (s_retO (o_call (c_needless.z hZ) tk (hr.mono (by omega)) (as_cons (d_v 1) (as_cons d_int (as_cons (d_v 2) as_nil)))))) ss_nil)
    (ss_cons (s_if (t_cmp (o_eq (r64 hr)) (b_v 0) (b_d d_int) (nomark _)) (ss_one (s_retO (o_call (c_trimmed.z hZ) tk (hr.mono (by omega)) (as_cons (d_v 1) (as_cons d_int (as_cons (d_v 2) as_nil)))))) ss_nil)
    (ss_cons (s_if (t_cmp (o_eq (r64 hr)) (b_v 0) (b_d d_int) (nomark _)) (ss_one (s_retO (o_call (c_in_order.z hZ) tk (hr.mono (by omega)) (as_cons (d_v 1) (as_cons d_int (as_cons (d_v 2) as_nil)))))) ss_nil)
    (ss_cons (s_if (t_cmp (o_eq (r64 hr)) (b_v 0) (b_d d_int) (nomark _)) (ss_one (s_retO (o_call (c_suspects.z hZ) tk (hr.mono (by omega)) (as_cons (d_v 1) (as_cons d_int (as_cons (d_v 2) (as_cons d_non as_nil))))))) ss_nil)
    (ss_cons (s_if (t_cmp (o_eq (r64 hr)) (b_v 0) (b_d d_int) (nomark _)) (ss_one (s_retO (o_call (c_blurred.z hZ) tk (hr.mono (by omega)) (as_cons (d_v 1) (as_cons d_int (as_cons (d_v 2) as_nil)))))) ss_nil)
    (ss_one (s_ret (d_call (c_most_looked.z hZ) tk (hr.mono (by omega)) (as_cons (d_v 1) (as_cons d_int (as_cons (d_v 2) as_nil)))))))))))))
theorem D_l_told (hw0 : Wd.w = w) (T : Names K mg) (F : Std K mg "_law_told" s_l_told ["_law_sort", "_law_way", "_law_book_here", "_law_bad"]) (c_l_by_strength : DefD P w K mg base (zOf K ns) 10 "_law_by_strength" ["_law_way", "_law_book_here", "_law_bad"] DM.f_l_by_strength) (c_l_more : DefD P w K mg base (zOf K ns) 11 "_law_more" ["_law_way", "_law_book_here", "_law_bad"] DM.f_l_more_02) (c_l_by_tests : DefD P w K mg base (zOf K ns) 13 "_law_by_tests" ["_law_way", "_law_book_here", "_law_bad"] DM.f_l_by_tests) : DefD P w K mg base (zOf K ns) 14 "_law_told" ["_law_sort", "_law_way", "_law_book_here", "_law_bad"] DM.f_l_told_02 :=
  def_D hw0 F sc_l_told fun f cdv A' outer s H E A hZ hn hw hr tk =>
    (ss_cons (s_tryAs 4 hn rfl rfl sc_l_told.nd tk ⟨rfl, by decide, .inl (T.ex.mg "TestError" (by decide))⟩ (by rw [hZ]; exact handK_exm T.ex (by decide) _) (fun W' pn xe tk _ =>
    (ss_one (s_if (t_cmp (o_eq (r64 hr)) (b_v 0) (b_d d_int) (nomark _)) (ss_one (s_drop (d_call (c_l_by_strength.z hZ) tk (hr.mono (by omega)) (as_cons (d_v 1) (as_cons (d_v 2) (as_cons (d_v 3) as_nil)))))) (ss_one (s_if (t_cmp (o_eq (r64 hr)) (b_v 0) (b_d d_int) (nomark _)) (ss_one (s_drop (d_call (c_l_more.z hZ) tk (hr.mono (by omega)) (as_cons (d_v 1) (as_cons (d_v 2) (as_cons (d_v 3) as_nil)))))) (ss_one (s_drop (d_call (c_l_by_tests.z hZ) tk (hr.mono (by omega)) (as_cons (d_v 1) (as_cons (d_v 2) (as_cons (d_v 3) as_nil)))))))))))
    (fun c _ a oe cls dd pn A' hz hv Su hk => by
      obtain rfl := handK_some hk
      exact (ss_cons (s_if (t_val (b_d (d_isE 4 "BadTests" T.ex Su hZ hz hv T.n_isinstance))) (ss_one (s_retO (o_lst (as_cons (d_not (b_d (d_isE 4 "BadStrength" T.ex Su hZ hz hv T.n_isinstance))) (as_cons (d_isV 4 T.ex Su hZ hz hv T.n_isinstance T.n_ValueError) (as_cons (d_at 4 T.ex Su hZ hz hv) as_nil)))))) ss_nil)
    (ss_one (s_retO (o_lst (as_cons (d_isE 4 "BadStrength" T.ex Su hZ hz hv T.n_isinstance) (as_cons (d_isV 4 T.ex Su hZ hz hv T.n_isinstance T.n_ValueError) as_nil))))))))
    (ss_one (s_retO (o_lst as_nil))))
theorem D_law (hw0 : Wd.w = w) (T : Names K mg) (F : Std K mg "law" s_law ["_law_script"]) (c_l_book : DefD P w K mg base (zOf K ns) 2 "_law_book" ["_law_script", "_law_at"] DM.f_l_book) (c_l_cell : DefD P w K mg base (zOf K ns) 1 "_law_cell" ["_law_script", "_law_k"] DM.f_l_cell) (c_l_told : DefD P w K mg base (zOf K ns) 14 "_law_told" ["_law_sort", "_law_way", "_law_book_here", "_law_bad"] DM.f_l_told_02) (c_l_drawn : DefD P w K mg base (zOf K ns) 3 "_law_drawn" ["_law_script", "_law_at", "_law_book_here", "_law_most"] DM.f_l_drawn) (c_l_rows : DefD P w K mg base (zOf K ns) 1 "_law_rows" ["_law_levels"] DM.f_l_rows) (c_l_tests : DefD P w K mg base (zOf K ns) 2 "_law_tests" ["_law_book_here"] DM.f_l_tests) : DefD P w K mg base (zOf K ns) 15 "law" ["_law_script"] DM.f_law_02 :=
  def_D hw0 F sc_law fun f cdv A' outer s H E A hZ hn hw hr tk =>
    (ss_cons (s_set 1 sc_law.nd (d_call (c_l_book.z hZ) tk (hr.mono (by omega)) (as_cons (d_v 0) (as_cons d_int as_nil))))
    (ss_cons (s_set 2 sc_law.nd (d_ix o_ix (b_d (d_o (o_lst (as_cons d_non (as_cons d_int (as_cons d_int (as_cons d_bl (as_cons d_str (as_cons (d_o (o_lst (as_cons d_int as_nil))) (as_cons (d_neg (b_d d_int)) (as_cons (d_op o_add (b_d (d_op o_add (b_d (d_callB c_len (by rfl) T.n_len (by decide +kernel) (bs_cons (b_d (d_ix o_ix (b_v 1) (b_d d_int) (fun _ _ => rfl))) bs_nil))) (b_d d_int))) (b_d (d_op o_mul (b_d d_int) (b_d (d_callTy c_int (by rfl) T.n_int (by decide +kernel) (bs_cons (b_d (d_cmp o_gt (b_d (d_callB c_len (by rfl) T.n_len (by decide +kernel) (bs_cons (b_d (d_ix o_ix (b_v 1) (b_d d_int) (fun _ _ => rfl))) bs_nil))) (b_d d_int) (nomark _))) bs_nil)))))) (as_cons (d_tup (as_cons d_int as_nil)) as_nil)))))))))))) (b_d (d_op o_mod (b_d (d_call (c_l_cell.z hZ) tk (hr.mono (by omega)) (as_cons (d_v 0) (as_cons d_int as_nil)))) (b_d d_int))) (fun _ _ => rfl)))
    (ss_cons (s_for (passes_of rfl) rfl (i_seqF (d_o (o_lst (as_cons (d_tup (as_cons d_int (as_cons d_int as_nil))) (as_cons (d_tup (as_cons d_int (as_cons d_int as_nil))) as_nil))))) (pg_tup rfl (pgs_cons (pg_name (i := 3) sc_law.nd rfl (by first | exact Or.inl rfl | exact Or.inr rfl)) (pgs_cons (pg_name (i := 4) sc_law.nd rfl (by first | exact Or.inl rfl | exact Or.inr rfl)) pgs_nil))) tgs_pair (ss_one (s_if (t_val (b_d (d_o (o_lc (own := [("_law_way", 5)]) rfl sc_law.nd (ih_f (i_rng1 T.n_range (bs_cons (b_v 4) bs_nil))) (blkOk_by (own := [("_law_way", 5)]) (N := N_law) (sc := defScope s_law) (by decide +kernel)) (fun _ _ _ _ _ => (pg_name (i := 5) sc_law.nd rfl (by first | exact Or.inl rfl | exact Or.inr rfl))) tgs_name (fun _ _ _ _ _ => (ts_one (t_cmp (o_ne (r64 hr)) (b_d (d_call (c_l_told.z hZ) takesW (hr.mono (by omega)) (as_cons (d_v 3) (as_cons (d_v 5) (as_cons (d_v 1) (as_cons (d_v 2) as_nil)))))) (b_d (d_o (o_lst (as_cons d_bl (as_cons d_bl as_nil))))) (nomark _)))) (fun _ _ _ _ _ => (d_v 5)))))) (ss_one (s_ret d_bl)) ss_nil)))
    (ss_cons (s_set 6 sc_law.nd (d_call (c_l_drawn.z hZ) tk (hr.mono (by omega)) (as_cons (d_v 0) (as_cons d_int (as_cons (d_v 1) (as_cons d_int as_nil))))))
    (ss_cons (s_set 7 sc_law.nd (d_op o_mod (b_d (d_call (c_l_cell.z hZ) tk (hr.mono (by omega)) (as_cons (d_v 0) (as_cons d_int as_nil)))) (b_d (d_op o_add (b_d (d_callB c_len (by rfl) T.n_len (by decide +kernel) (bs_cons (b_v 6) bs_nil))) (b_d d_int)))))
    (ss_cons (s_set 8 sc_law.nd (d_o (o_lst (as_cons d_non (as_cons d_int (as_cons (d_op o_mulA (b_d (d_tup (as_cons d_int as_nil))) (b_d (d_op o_add (b_d (d_callB c_len (by rfl) T.n_len (by decide +kernel) (bs_cons (b_d (d_ix o_ix (b_v 1) (b_d d_int) (fun _ _ => rfl))) bs_nil))) (b_d d_int)))) (as_cons (d_op o_mulA (b_d (d_o (o_lst (as_cons d_int as_nil)))) (b_d (d_callB c_len (by rfl) T.n_len (by decide +kernel) (bs_cons (b_d (d_ix o_ix (b_v 1) (b_d d_int) (fun _ _ => rfl))) bs_nil)))) (as_cons (d_ix o_ix (b_v 1) (b_d d_int) (fun _ _ => rfl)) as_nil))))))))
    (ss_cons (s_set 8 sc_law.nd (d_op o_add (b_v 8) (b_d (d_o (o_lst (as_cons (d_op o_add (b_d (d_tup (as_cons (d_neg (b_d d_int)) as_nil))) (b_d (d_slice s_any (b_d (d_ix o_ix (b_v 1) (b_d d_int) (fun _ _ => rfl))) (p_some (b_d d_int)) p_none))) (as_cons (d_op o_mulA (b_d (d_tup (as_cons d_bl as_nil))) (b_d (d_callB c_len (by rfl) T.n_len (by decide +kernel) (bs_cons (b_d (d_ix o_ix (b_v 1) (b_d d_int) (fun _ _ => rfl))) bs_nil)))) as_nil)))))))
    (ss_cons (s_set 8 sc_law.nd (d_op o_add (b_d (d_op o_add (b_v 8) (b_d (d_o (o_lst (as_cons (d_op o_mulA (b_d (d_tup (as_cons d_str as_nil))) (b_d (d_callB c_len (by rfl) T.n_len (by decide +kernel) (bs_cons (b_d (d_ix o_ix (b_v 1) (b_d d_int) (fun _ _ => rfl))) bs_nil)))) (as_cons (d_tup as_nil) as_nil))))))) (b_d (d_o (o_lc (own := [("_law_row", 9)]) rfl sc_law.nd (i_seq (b_d (d_call (c_l_rows.z hZ) tk (hr.mono (by omega)) (as_cons (d_ix o_ix (b_v 1) (b_d d_int) (fun _ _ => rfl)) as_nil)))) (blkOk_by (own := [("_law_row", 9)]) (N := N_law) (sc := defScope s_law) (by decide +kernel)) (fun _ _ _ _ _ => (pg_name (i := 9) sc_law.nd rfl (by first | exact Or.inl rfl | exact Or.inr rfl))) tgs_name (fun _ _ _ _ _ => (ts_one (t_cmp (o_notIn (r65 hr)) (b_v 9) (b_d (d_call (c_l_tests.z hZ) takesW (hr.mono (by omega)) (as_cons (d_v 1) as_nil))) (by with_unfolding_all rfl)))) (fun _ _ _ _ _ => (d_v 9)))))))
    (ss_cons (s_set 10 sc_law.nd (d_op o_add (b_d (d_op o_add (b_d (d_slice s_any (b_v 6) p_none (p_some (b_v 7)))) (b_d (d_o (o_lst (as_cons (d_ix o_ix (b_v 8) (b_d (d_op o_mod (b_d (d_call (c_l_cell.z hZ) tk (hr.mono (by omega)) (as_cons (d_v 0) (as_cons d_int as_nil)))) (b_d (d_callB c_len (by rfl) T.n_len (by decide +kernel) (bs_cons (b_v 8) bs_nil))))) (fun _ _ => rfl)) as_nil)))))) (b_d (d_slice s_any (b_v 6) (p_some (b_v 7)) p_none))))
    (ss_cons (s_set 11 sc_law.nd (d_v 7))
    (ss_cons (s_if (t_cmp (o_eq (r64 hr)) (b_d (d_op o_mod (b_d (d_call (c_l_cell.z hZ) tk (hr.mono (by omega)) (as_cons (d_v 0) (as_cons d_int as_nil)))) (b_d d_int))) (b_d d_int) (nomark _)) (ss_cons (s_set 10 sc_law.nd (d_ix o_ix (b_d (d_o (o_lst (as_cons d_non (as_cons (d_callTy c_tuple (by rfl) T.n_tuple (by decide +kernel) (bs_cons (b_v 6) bs_nil)) (as_cons d_int as_nil)))))) (b_d (d_op o_mod (b_d (d_call (c_l_cell.z hZ) tk (hr.mono (by omega)) (as_cons (d_v 0) (as_cons d_int as_nil)))) (b_d d_int))) (fun _ _ => rfl)))
    (ss_one (s_set 11 sc_law.nd d_int))) ss_nil)
    (ss_one (s_ret (d_cmp (o_eq (r64 hr)) (b_d (d_o (o_lc (own := [("_law_way", 5)]) rfl sc_law.nd (ih_f (i_rng1 T.n_range (bs_cons (b_d d_int) bs_nil))) (blkOk_by (own := [("_law_way", 5)]) (N := N_law) (sc := defScope s_law) (by decide +kernel)) (fun _ _ _ _ _ => (pg_name (i := 5) sc_law.nd rfl (by first | exact Or.inl rfl | exact Or.inr rfl))) tgs_name (fun _ _ _ _ _ => (ts_one (t_cmp (o_ne (r64 hr)) (b_d (d_call (c_l_told.z hZ) takesW (hr.mono (by omega)) (as_cons d_int (as_cons (d_v 5) (as_cons (d_v 1) (as_cons (d_v 10) as_nil)))))) (b_d (d_o (o_lst (as_cons d_bl (as_cons d_bl (as_cons (d_v 11) as_nil)))))) (nomark _)))) (fun _ _ _ _ _ => (d_v 5))))) (b_d (d_o (o_lst as_nil))) (nomark _)))))))))))))))
theorem D_all (hw0 : Wd.w = w) (T : Names K mg) (G : Defs K mg) : DefD P w K mg base (zOf K ns) 15 "law" ["_law_script"] DM.f_law_02 := by
  have c_bad := D_bad (P := P) (w := w) (base := base) T G.bad
  have c_is_within := D_is_within (P := P) (w := w) (base := base) hw0 T G.d_is_within
  have c_is_meeting := D_is_meeting (P := P) (w := w) (base := base) hw0 T G.d_is_meeting c_is_within
  have c_rows_in := D_rows_in (P := P) (w := w) (base := base) hw0 T G.d_rows_in
  have c_is_book := D_is_book (P := P) (w := w) (base := base) hw0 T G.d_is_book c_is_within c_rows_in c_is_meeting
  have c_checked := D_checked (P := P) (w := w) (base := base) hw0 T G.d_checked c_is_book
  have c_look_strength := D_look_strength (P := P) (w := w) (base := base) hw0 T G.d_look_strength c_checked c_is_within
  have c_meets := D_meets (P := P) (w := w) (base := base) hw0 T G.d_meets
  have c_is_allowed := D_is_allowed (P := P) (w := w) (base := base) hw0 T G.d_is_allowed c_meets
  have c_rows_of := D_rows_of (P := P) (w := w) (base := base) hw0 T G.d_rows_of
  have c_tests_of := D_tests_of (P := P) (w := w) (base := base) hw0 T G.d_tests_of c_rows_of c_is_allowed
  have c_is_row := D_is_row (P := P) (w := w) (base := base) hw0 T G.d_is_row c_is_within
  have c_look_tests := D_look_tests (P := P) (w := w) (base := base) hw0 T G.d_look_tests c_bad c_is_allowed c_is_row
  have c_chosen := D_chosen (P := P) (w := w) (base := base) hw0 T G.d_chosen
  have c_meetings_of := D_meetings_of (P := P) (w := w) (base := base) hw0 T G.d_meetings_of c_chosen
  have c_all_meetings := D_all_meetings (P := P) (w := w) (base := base) hw0 T G.d_all_meetings c_look_strength c_meetings_of
  have c_possible_of := D_possible_of (P := P) (w := w) (base := base) hw0 T G.d_possible_of c_tests_of c_meetings_of c_meets
  have c_possible := D_possible (P := P) (w := w) (base := base) hw0 T G.d_possible c_look_strength c_possible_of
  have c_impossible := D_impossible (P := P) (w := w) (base := base) hw0 T G.d_impossible c_look_strength c_possible_of c_meetings_of
  have c_look_cover := D_look_cover (P := P) (w := w) (base := base) hw0 T G.d_look_cover c_look_strength c_look_tests
  have c_unmet := D_unmet (P := P) (w := w) (base := base) hw0 T G.d_unmet c_meets
  have c_missing := D_missing (P := P) (w := w) (base := base) hw0 T G.d_missing c_look_cover c_unmet c_possible_of
  have c_is_cover := D_is_cover (P := P) (w := w) (base := base) hw0 T G.d_is_cover c_missing
  have c_without := D_without (P := P) (w := w) (base := base) hw0 T G.d_without
  have c_needless := D_needless (P := P) (w := w) (base := base) hw0 T G.d_needless c_look_cover c_unmet c_possible_of c_without
  have c_trimmed_of := D_trimmed_of (P := P) (w := w) (base := base) hw0 T G.d_trimmed_of c_unmet c_without
  have c_trimmed := D_trimmed (P := P) (w := w) (base := base) hw0 T G.d_trimmed c_look_cover c_trimmed_of c_possible_of
  have c_new_met := D_new_met (P := P) (w := w) (base := base) hw0 T G.d_new_met c_meets
  have c_in_order := D_in_order (P := P) (w := w) (base := base) hw0 T G.d_in_order c_look_cover c_possible_of c_new_met c_unmet
  have c_filled := D_filled (P := P) (w := w) (base := base) hw0 T G.d_filled c_unmet c_tests_of c_new_met
  have c_built := D_built (P := P) (w := w) (base := base) hw0 T G.d_built c_look_strength c_possible_of c_trimmed_of c_filled
  have c_look_results := D_look_results (P := P) (w := w) (base := base) hw0 T G.d_look_results c_look_strength c_look_tests
  have c_results_by := D_results_by (P := P) (w := w) (base := base) hw0 T G.d_results_by c_meets
  have c_suspects_of := D_suspects_of (P := P) (w := w) (base := base) hw0 T G.d_suspects_of c_possible_of c_results_by
  have c_suspects := D_suspects (P := P) (w := w) (base := base) hw0 T G.d_suspects c_look_results c_suspects_of
  have c_blurred := D_blurred (P := P) (w := w) (base := base) hw0 T G.d_blurred c_look_strength c_look_tests c_possible_of c_results_by
  have c_next_test := D_next_test (P := P) (w := w) (base := base) hw0 T G.d_next_test c_suspects c_tests_of c_meets
  have c_most_looked := D_most_looked (P := P) (w := w) (base := base) hw0 T G.d_most_looked c_look_strength c_look_tests c_possible_of c_next_test c_results_by
  have c_look_small := D_look_small (P := P) (w := w) (base := base) hw0 T G.d_look_small c_look_strength c_tests_of
  have c_fewest := D_fewest (P := P) (w := w) (base := base) hw0 T G.d_fewest c_look_small
  have c_apart := D_apart (P := P) (w := w) (base := base) hw0 T G.d_apart c_look_small
  have c_look_rows := D_look_rows (P := P) (w := w) (base := base) hw0 T G.d_look_rows c_bad c_is_within
  have c_kept := D_kept (P := P) (w := w) (base := base) hw0 T G.d_kept c_look_strength c_look_rows c_is_allowed c_is_row c_possible_of c_filled c_unmet
  have c_look_many := D_look_many (P := P) (w := w) (base := base) hw0 T G.d_look_many c_is_within
  have c_tree := D_tree (P := P) (w := w) (base := base) hw0 T G.d_tree
  have c_paper := D_paper (P := P) (w := w) (base := base) hw0 T G.d_paper c_look_small c_look_many
  have c_holds_apart := D_holds_apart (P := P) (w := w) (base := base) hw0 T G.d_holds_apart c_is_meeting c_tests_of c_meets
  have c_holds_tree := D_holds_tree (P := P) (w := w) (base := base) hw0 T G.d_holds_tree c_is_meeting c_tests_of c_meets c_unmet
  have c_is_paper := D_is_paper (P := P) (w := w) (base := base) hw0 T G.d_is_paper c_look_strength c_look_many c_holds_apart c_holds_tree
  have c_l_cell := D_l_cell (P := P) (w := w) (base := base) hw0 T G.d_l_cell
  have c_l_mix := D_l_mix (P := P) (w := w) (base := base) hw0 T G.d_l_mix
  have c_l_book := D_l_book (P := P) (w := w) (base := base) hw0 T G.d_l_book c_l_cell c_l_mix
  have c_l_rows := D_l_rows (P := P) (w := w) (base := base) hw0 T G.d_l_rows
  have c_l_meets := D_l_meets (P := P) (w := w) (base := base) hw0 T G.d_l_meets
  have c_l_tests := D_l_tests (P := P) (w := w) (base := base) hw0 T G.d_l_tests c_l_rows c_l_meets
  have c_l_drawn := D_l_drawn (P := P) (w := w) (base := base) hw0 T G.d_l_drawn c_l_tests c_l_mix c_l_cell
  have c_l_by_strength := D_l_by_strength (P := P) (w := w) (base := base) hw0 T G.d_l_by_strength c_all_meetings c_possible c_impossible c_missing c_needless c_trimmed c_in_order c_built
  have c_l_more := D_l_more (P := P) (w := w) (base := base) hw0 T G.d_l_more c_fewest c_apart c_paper c_is_paper c_kept c_suspects c_blurred
  have c_l_by_tests := D_l_by_tests (P := P) (w := w) (base := base) hw0 T G.d_l_by_tests c_missing c_is_cover c_needless c_trimmed c_in_order c_suspects c_blurred c_most_looked
  have c_l_told := D_l_told (P := P) (w := w) (base := base) hw0 T G.d_l_told c_l_by_strength c_l_more c_l_by_tests
  have c_law := D_law (P := P) (w := w) (base := base) hw0 T G.d_law c_l_book c_l_cell c_l_told c_l_drawn c_l_rows c_l_tests
  exact c_law
end
end K02


set_option maxHeartbeats 0
namespace K02
open PySem PySem.Spec PyProof.Rows L2 DL
def d_bad : He.DefD := ⟨("BadTests", some "__init__"), "__init__", "BadTests.__init__", defArgs s_bad, defBody s_bad, defScope s_bad, [], []⟩
def d_is_within : He.DefD := ⟨("is_within", none), "is_within", "is_within", defArgs s_is_within, defBody s_is_within, defScope s_is_within, [], []⟩
def d_is_meeting : He.DefD := ⟨("is_meeting", none), "is_meeting", "is_meeting", defArgs s_is_meeting, defBody s_is_meeting, defScope s_is_meeting, [], []⟩
def d_rows_in : He.DefD := ⟨("rows_in", none), "rows_in", "rows_in", defArgs s_rows_in, defBody s_rows_in, defScope s_rows_in, [], []⟩
def d_is_book : He.DefD := ⟨("is_book", none), "is_book", "is_book", defArgs s_is_book, defBody s_is_book, defScope s_is_book, [], []⟩
def d_checked : He.DefD := ⟨("checked", none), "checked", "checked", defArgs s_checked, defBody s_checked, defScope s_checked, [], []⟩
def d_look_strength : He.DefD := ⟨("look_strength", none), "look_strength", "look_strength", defArgs s_look_strength, defBody s_look_strength, defScope s_look_strength, [], []⟩
def d_meets : He.DefD := ⟨("meets", none), "meets", "meets", defArgs s_meets, defBody s_meets, defScope s_meets, [], []⟩
def d_is_allowed : He.DefD := ⟨("is_allowed", none), "is_allowed", "is_allowed", defArgs s_is_allowed, defBody s_is_allowed, defScope s_is_allowed, [], []⟩
def d_rows_of : He.DefD := ⟨("rows_of", none), "rows_of", "rows_of", defArgs s_rows_of, defBody s_rows_of, defScope s_rows_of, [], []⟩
def d_tests_of : He.DefD := ⟨("tests_of", none), "tests_of", "tests_of", defArgs s_tests_of, defBody s_tests_of, defScope s_tests_of, [], []⟩
def d_is_row : He.DefD := ⟨("is_row", none), "is_row", "is_row", defArgs s_is_row, defBody s_is_row, defScope s_is_row, [], []⟩
def d_look_tests : He.DefD := ⟨("look_tests", none), "look_tests", "look_tests", defArgs s_look_tests, defBody s_look_tests, defScope s_look_tests, [], []⟩
def d_chosen : He.DefD := ⟨("chosen", none), "chosen", "chosen", defArgs s_chosen, defBody s_chosen, defScope s_chosen, [], []⟩
def d_meetings_of : He.DefD := ⟨("meetings_of", none), "meetings_of", "meetings_of", defArgs s_meetings_of, defBody s_meetings_of, defScope s_meetings_of, [], []⟩
def d_all_meetings : He.DefD := ⟨("all_meetings", none), "all_meetings", "all_meetings", defArgs s_all_meetings, defBody s_all_meetings, defScope s_all_meetings, [], []⟩
def d_possible_of : He.DefD := ⟨("possible_of", none), "possible_of", "possible_of", defArgs s_possible_of, defBody s_possible_of, defScope s_possible_of, [], []⟩
def d_possible : He.DefD := ⟨("possible", none), "possible", "possible", defArgs s_possible, defBody s_possible, defScope s_possible, [], []⟩
def d_impossible : He.DefD := ⟨("impossible", none), "impossible", "impossible", defArgs s_impossible, defBody s_impossible, defScope s_impossible, [], []⟩
def d_look_cover : He.DefD := ⟨("look_cover", none), "look_cover", "look_cover", defArgs s_look_cover, defBody s_look_cover, defScope s_look_cover, [], []⟩
def d_unmet : He.DefD := ⟨("unmet", none), "unmet", "unmet", defArgs s_unmet, defBody s_unmet, defScope s_unmet, [], []⟩
def d_missing : He.DefD := ⟨("missing", none), "missing", "missing", defArgs s_missing, defBody s_missing, defScope s_missing, [], []⟩
def d_is_cover : He.DefD := ⟨("is_cover", none), "is_cover", "is_cover", defArgs s_is_cover, defBody s_is_cover, defScope s_is_cover, [], []⟩
def d_without : He.DefD := ⟨("without", none), "without", "without", defArgs s_without, defBody s_without, defScope s_without, [], []⟩
def d_needless : He.DefD := ⟨("needless", none), "needless", "needless", defArgs s_needless, defBody s_needless, defScope s_needless, [], []⟩
def d_trimmed_of : He.DefD := ⟨("trimmed_of", none), "trimmed_of", "trimmed_of", defArgs s_trimmed_of, defBody s_trimmed_of, defScope s_trimmed_of, [], []⟩
def d_trimmed : He.DefD := ⟨("trimmed", none), "trimmed", "trimmed", defArgs s_trimmed, defBody s_trimmed, defScope s_trimmed, [], []⟩
def d_new_met : He.DefD := ⟨("new_met", none), "new_met", "new_met", defArgs s_new_met, defBody s_new_met, defScope s_new_met, [], []⟩
def d_in_order : He.DefD := ⟨("in_order", none), "in_order", "in_order", defArgs s_in_order, defBody s_in_order, defScope s_in_order, [], []⟩
def d_filled : He.DefD := ⟨("filled", none), "filled", "filled", defArgs s_filled, defBody s_filled, defScope s_filled, [], []⟩
def d_built : He.DefD := ⟨("built", none), "built", "built", defArgs s_built, defBody s_built, defScope s_built, [], []⟩
def d_look_results : He.DefD := ⟨("look_results", none), "look_results", "look_results", defArgs s_look_results, defBody s_look_results, defScope s_look_results, [], []⟩
def d_results_by : He.DefD := ⟨("results_by", none), "results_by", "results_by", defArgs s_results_by, defBody s_results_by, defScope s_results_by, [], []⟩
def d_suspects_of : He.DefD := ⟨("suspects_of", none), "suspects_of", "suspects_of", defArgs s_suspects_of, defBody s_suspects_of, defScope s_suspects_of, [], []⟩
def d_suspects : He.DefD := ⟨("suspects", none), "suspects", "suspects", defArgs s_suspects, defBody s_suspects, defScope s_suspects, [], []⟩
def d_blurred : He.DefD := ⟨("blurred", none), "blurred", "blurred", defArgs s_blurred, defBody s_blurred, defScope s_blurred, [], []⟩
def d_next_test : He.DefD := ⟨("next_test", none), "next_test", "next_test", defArgs s_next_test, defBody s_next_test, defScope s_next_test, [], []⟩
def d_most_looked : He.DefD := ⟨("most_looked", none), "most_looked", "most_looked", defArgs s_most_looked, defBody s_most_looked, defScope s_most_looked, [], []⟩
def d_look_small : He.DefD := ⟨("look_small", none), "look_small", "look_small", defArgs s_look_small, defBody s_look_small, defScope s_look_small, [], []⟩
def d_fewest : He.DefD := ⟨("fewest", none), "fewest", "fewest", defArgs s_fewest, defBody s_fewest, defScope s_fewest, [], []⟩
def d_apart : He.DefD := ⟨("apart", none), "apart", "apart", defArgs s_apart, defBody s_apart, defScope s_apart, [], []⟩
def d_look_rows : He.DefD := ⟨("look_rows", none), "look_rows", "look_rows", defArgs s_look_rows, defBody s_look_rows, defScope s_look_rows, [], []⟩
def d_kept : He.DefD := ⟨("kept", none), "kept", "kept", defArgs s_kept, defBody s_kept, defScope s_kept, [], []⟩
def d_look_many : He.DefD := ⟨("look_many", none), "look_many", "look_many", defArgs s_look_many, defBody s_look_many, defScope s_look_many, [], []⟩
def d_tree : He.DefD := ⟨("tree", none), "tree", "tree", defArgs s_tree, defBody s_tree, defScope s_tree, [], []⟩
def d_paper : He.DefD := ⟨("paper", none), "paper", "paper", defArgs s_paper, defBody s_paper, defScope s_paper, [], []⟩
def d_holds_apart : He.DefD := ⟨("holds_apart", none), "holds_apart", "holds_apart", defArgs s_holds_apart, defBody s_holds_apart, defScope s_holds_apart, [], []⟩
def d_holds_tree : He.DefD := ⟨("holds_tree", none), "holds_tree", "holds_tree", defArgs s_holds_tree, defBody s_holds_tree, defScope s_holds_tree, [], []⟩
def d_is_paper : He.DefD := ⟨("is_paper", none), "is_paper", "is_paper", defArgs s_is_paper, defBody s_is_paper, defScope s_is_paper, [], []⟩
def d_l_cell : He.DefD := ⟨("_law_cell", none), "_law_cell", "_law_cell", defArgs s_l_cell, defBody s_l_cell, defScope s_l_cell, [], []⟩
def d_l_mix : He.DefD := ⟨("_law_mix", none), "_law_mix", "_law_mix", defArgs s_l_mix, defBody s_l_mix, defScope s_l_mix, [], []⟩
def d_l_book : He.DefD := ⟨("_law_book", none), "_law_book", "_law_book", defArgs s_l_book, defBody s_l_book, defScope s_l_book, [], []⟩
def d_l_rows : He.DefD := ⟨("_law_rows", none), "_law_rows", "_law_rows", defArgs s_l_rows, defBody s_l_rows, defScope s_l_rows, [], []⟩
def d_l_meets : He.DefD := ⟨("_law_meets", none), "_law_meets", "_law_meets", defArgs s_l_meets, defBody s_l_meets, defScope s_l_meets, [], []⟩
def d_l_tests : He.DefD := ⟨("_law_tests", none), "_law_tests", "_law_tests", defArgs s_l_tests, defBody s_l_tests, defScope s_l_tests, [], []⟩
def d_l_drawn : He.DefD := ⟨("_law_drawn", none), "_law_drawn", "_law_drawn", defArgs s_l_drawn, defBody s_l_drawn, defScope s_l_drawn, [], []⟩
def d_l_by_strength : He.DefD := ⟨("_law_by_strength", none), "_law_by_strength", "_law_by_strength", defArgs s_l_by_strength, defBody s_l_by_strength, defScope s_l_by_strength, [], []⟩
def d_l_more : He.DefD := ⟨("_law_more", none), "_law_more", "_law_more", defArgs s_l_more, defBody s_l_more, defScope s_l_more, [], []⟩
def d_l_by_tests : He.DefD := ⟨("_law_by_tests", none), "_law_by_tests", "_law_by_tests", defArgs s_l_by_tests, defBody s_l_by_tests, defScope s_l_by_tests, [], []⟩
def d_l_told : He.DefD := ⟨("_law_told", none), "_law_told", "_law_told", defArgs s_l_told, defBody s_l_told, defScope s_l_told, [], []⟩
def d_law : He.DefD := ⟨("law", none), "law", "law", defArgs s_law, defBody s_law, defScope s_law, [], []⟩
def fn : List He.DefD := [d_is_within, d_is_meeting, d_rows_in, d_is_book, d_checked, d_look_strength, d_meets, d_is_allowed, d_rows_of, d_tests_of, d_is_row, d_look_tests, d_chosen, d_meetings_of, d_all_meetings, d_possible_of, d_possible, d_impossible, d_look_cover, d_unmet, d_missing, d_is_cover, d_without, d_needless, d_trimmed_of, d_trimmed, d_new_met, d_in_order, d_filled, d_built, d_look_results, d_results_by, d_suspects_of, d_suspects, d_blurred, d_next_test, d_most_looked, d_look_small, d_fewest, d_apart, d_look_rows, d_kept, d_look_many, d_tree, d_paper, d_holds_apart, d_holds_tree, d_is_paper, d_l_cell, d_l_mix, d_l_book, d_l_rows, d_l_meets, d_l_tests, d_l_drawn, d_l_by_strength, d_l_more, d_l_by_tests, d_l_told, d_law, d_bad]
def fa : List He.Fa := [.glo "is_within", .glo "is_meeting", .glo "rows_in", .glo "is_book", .glo "checked", .glo "look_strength", .glo "meets", .glo "is_allowed", .glo "rows_of", .glo "tests_of", .glo "is_row", .glo "look_tests", .glo "chosen", .glo "meetings_of", .glo "all_meetings", .glo "possible_of", .glo "possible", .glo "impossible", .glo "look_cover", .glo "unmet", .glo "missing", .glo "is_cover", .glo "without", .glo "needless", .glo "trimmed_of", .glo "trimmed", .glo "new_met", .glo "in_order", .glo "filled", .glo "built", .glo "look_results", .glo "results_by", .glo "suspects_of", .glo "suspects", .glo "blurred", .glo "next_test", .glo "most_looked", .glo "look_small", .glo "fewest", .glo "apart", .glo "look_rows", .glo "kept", .glo "look_many", .glo "tree", .glo "paper", .glo "holds_apart", .glo "holds_tree", .glo "is_paper", .glo "_law_cell", .glo "_law_mix", .glo "_law_book", .glo "_law_rows", .glo "_law_meets", .glo "_law_tests", .glo "_law_drawn", .glo "_law_by_strength", .glo "_law_more", .glo "_law_by_tests", .glo "_law_told", .glo "law", .free "ValueError", .free "bool", .free "enumerate", .free "int", .free "isinstance", .free "len", .free "list", .free "max", .free "min", .free "range", .free "sorted", .free "str", .free "tuple", .int "MOST_BANS" 12, .int "MOST_ROWS" 400, .int "MOST_SETTINGS" 4, .int "MOST_SMALL" 24, .int "MOST_TESTS" 30, .int "MOST_THINGS" 6]
def ex : PySem.W.Frag → Bool := exB ns
abbrev R : PySem.W.OpenRow := PySem.W.OpenLaw.row PySem.Challenge.rw_pairtests_k02_strengths_and_tests
abbrev hk : PySem.W.Hook := hookL 4 fa fn ex
def ob (s : PySem.W.SharedT) : He.AlD × Bool := obsL 4 fa fn ex (HandSHeadRun.getT s)
theorem ob_eq (s : PySem.W.SharedT) : ob s = hk.obs s.abs := obsL_eq (HandSHeadRun.getT_eq s)
def loose : List Str := (["TestError", "BadBook", "BadStrength", "BadTests", "BadNumber", "BadResults", "TooBig", "MOST_THINGS", "MOST_SETTINGS", "MOST_BANS", "MOST_ROWS", "is_within", "is_meeting", "rows_in", "is_book", "checked"] : List Str) ++ (["look_strength", "meets", "is_allowed", "rows_of", "tests_of", "is_row", "look_tests", "chosen", "meetings_of", "all_meetings", "possible_of", "possible", "impossible", "look_cover", "unmet", "missing"] : List Str) ++ (["is_cover", "without", "needless", "trimmed_of", "trimmed", "new_met", "in_order", "filled", "built", "look_results", "results_by", "suspects_of", "suspects", "blurred", "next_test", "most_looked"] : List Str) ++ (["MOST_SMALL", "Yard", "look_small", "fewest", "apart", "look_rows", "kept", "MOST_TESTS", "look_many", "tree", "paper", "holds_apart", "holds_tree", "is_paper", "_law_cell", "_law_mix"] : List Str) ++ (["_law_book", "_law_rows", "_law_meets", "_law_tests", "_law_drawn", "_law_by_strength", "_law_more", "_law_by_tests", "_law_told"] : List Str)
theorem run (w : World) : HandSHeadRun.RunEq R (PySem.W.view R.prog [83]) hk ob 4000 loose w := by
  intro os
  kernel_rfl
abbrev wd (w : World) (K : PySem.W.Frag) : Wd := ⟨w, He.ga K "Yard"⟩
theorem facts {P : Program} {w : World} {K : PySem.W.Frag} {h : Heap} {mg : Str → Option Value} {f : Addr} (X : K.In h) (G : h.Ns mainGlobals mg) (hfa : mg ("law" : Str) = some (.ref f)) (c : He.SaysD fa fn K) (cx : ex K = true) :
    ∃ fd : FuncData, (∀ (s : Shared) (v : Value), BindsTo s fd ⟨[v], []⟩ [("_law_script", v)]) ∧ ∀ base : Heap, K.In base → base.Ns mainGlobals mg → FnOk P w K mg base (L2.CX P w) 15 f fd ["_law_script"] (@spD (wd w K) (zOf K ns) 1 DM.f_law_02) := by
  letI : Wd := wd w K
  have T : Names K mg := ⟨He.free_ok X G (c.fact 60 (f := .free "ValueError") rfl), He.free_ok X G (c.fact 61 (f := .free "bool") rfl), He.free_ok X G (c.fact 62 (f := .free "enumerate") rfl), He.free_ok X G (c.fact 63 (f := .free "int") rfl), He.free_ok X G (c.fact 64 (f := .free "isinstance") rfl), He.free_ok X G (c.fact 65 (f := .free "len") rfl), He.free_ok X G (c.fact 66 (f := .free "list") rfl), He.free_ok X G (c.fact 67 (f := .free "max") rfl), He.free_ok X G (c.fact 68 (f := .free "min") rfl), He.free_ok X G (c.fact 69 (f := .free "range") rfl), He.free_ok X G (c.fact 70 (f := .free "sorted") rfl), He.free_ok X G (c.fact 71 (f := .free "str") rfl), He.free_ok X G (c.fact 72 (f := .free "tuple") rfl), He.int_ok X G (c.fact 73 rfl), He.int_ok X G (c.fact 74 rfl), He.int_ok X G (c.fact 75 rfl), He.int_ok X G (c.fact 76 rfl), He.int_ok X G (c.fact 77 rfl), He.int_ok X G (c.fact 78 rfl), exB_ok X G cx⟩
  obtain ⟨fd_is_within, F_is_within⟩ := c.def_ 0 (d := d_is_within) rfl
  have m_is_within : mg "is_within" = _ := He.glo_ok X G (c.fact 0 (f := .glo "is_within") rfl)
  have S_is_within : Std K mg "is_within" s_is_within ["thing", "low", "high"] := std_of F_is_within m_is_within fun _ _ _ _ _ _ us hl => match us, hl with | [_, _, _], _ => rfl
  obtain ⟨fd_is_meeting, F_is_meeting⟩ := c.def_ 1 (d := d_is_meeting) rfl
  have m_is_meeting : mg "is_meeting" = _ := He.glo_ok X G (c.fact 1 (f := .glo "is_meeting") rfl)
  have S_is_meeting : Std K mg "is_meeting" s_is_meeting ["levels", "thing", "least", "most"] := std_of F_is_meeting m_is_meeting fun _ _ _ _ _ _ us hl => match us, hl with | [_, _, _, _], _ => rfl
  obtain ⟨fd_rows_in, F_rows_in⟩ := c.def_ 2 (d := d_rows_in) rfl
  have m_rows_in : mg "rows_in" = _ := He.glo_ok X G (c.fact 2 (f := .glo "rows_in") rfl)
  have S_rows_in : Std K mg "rows_in" s_rows_in ["levels"] := std_of F_rows_in m_rows_in fun _ _ _ _ _ _ us hl => match us, hl with | [_], _ => rfl
  obtain ⟨fd_is_book, F_is_book⟩ := c.def_ 3 (d := d_is_book) rfl
  have m_is_book : mg "is_book" = _ := He.glo_ok X G (c.fact 3 (f := .glo "is_book") rfl)
  have S_is_book : Std K mg "is_book" s_is_book ["thing"] := std_of F_is_book m_is_book fun _ _ _ _ _ _ us hl => match us, hl with | [_], _ => rfl
  obtain ⟨fd_checked, F_checked⟩ := c.def_ 4 (d := d_checked) rfl
  have m_checked : mg "checked" = _ := He.glo_ok X G (c.fact 4 (f := .glo "checked") rfl)
  have S_checked : Std K mg "checked" s_checked ["book"] := std_of F_checked m_checked fun _ _ _ _ _ _ us hl => match us, hl with | [_], _ => rfl
  obtain ⟨fd_look_strength, F_look_strength⟩ := c.def_ 5 (d := d_look_strength) rfl
  have m_look_strength : mg "look_strength" = _ := He.glo_ok X G (c.fact 5 (f := .glo "look_strength") rfl)
  have S_look_strength : Std K mg "look_strength" s_look_strength ["book", "strength"] := std_of F_look_strength m_look_strength fun _ _ _ _ _ _ us hl => match us, hl with | [_, _], _ => rfl
  obtain ⟨fd_meets, F_meets⟩ := c.def_ 6 (d := d_meets) rfl
  have m_meets : mg "meets" = _ := He.glo_ok X G (c.fact 6 (f := .glo "meets") rfl)
  have S_meets : Std K mg "meets" s_meets ["test", "meeting"] := std_of F_meets m_meets fun _ _ _ _ _ _ us hl => match us, hl with | [_, _], _ => rfl
  obtain ⟨fd_is_allowed, F_is_allowed⟩ := c.def_ 7 (d := d_is_allowed) rfl
  have m_is_allowed : mg "is_allowed" = _ := He.glo_ok X G (c.fact 7 (f := .glo "is_allowed") rfl)
  have S_is_allowed : Std K mg "is_allowed" s_is_allowed ["book", "test"] := std_of F_is_allowed m_is_allowed fun _ _ _ _ _ _ us hl => match us, hl with | [_, _], _ => rfl
  obtain ⟨fd_rows_of, F_rows_of⟩ := c.def_ 8 (d := d_rows_of) rfl
  have m_rows_of : mg "rows_of" = _ := He.glo_ok X G (c.fact 8 (f := .glo "rows_of") rfl)
  have S_rows_of : Std K mg "rows_of" s_rows_of ["levels"] := std_of F_rows_of m_rows_of fun _ _ _ _ _ _ us hl => match us, hl with | [_], _ => rfl
  obtain ⟨fd_tests_of, F_tests_of⟩ := c.def_ 9 (d := d_tests_of) rfl
  have m_tests_of : mg "tests_of" = _ := He.glo_ok X G (c.fact 9 (f := .glo "tests_of") rfl)
  have S_tests_of : Std K mg "tests_of" s_tests_of ["book"] := std_of F_tests_of m_tests_of fun _ _ _ _ _ _ us hl => match us, hl with | [_], _ => rfl
  obtain ⟨fd_is_row, F_is_row⟩ := c.def_ 10 (d := d_is_row) rfl
  have m_is_row : mg "is_row" = _ := He.glo_ok X G (c.fact 10 (f := .glo "is_row") rfl)
  have S_is_row : Std K mg "is_row" s_is_row ["levels", "thing"] := std_of F_is_row m_is_row fun _ _ _ _ _ _ us hl => match us, hl with | [_, _], _ => rfl
  obtain ⟨fd_look_tests, F_look_tests⟩ := c.def_ 11 (d := d_look_tests) rfl
  have m_look_tests : mg "look_tests" = _ := He.glo_ok X G (c.fact 11 (f := .glo "look_tests") rfl)
  have S_look_tests : Std K mg "look_tests" s_look_tests ["book", "tests"] := std_of F_look_tests m_look_tests fun _ _ _ _ _ _ us hl => match us, hl with | [_, _], _ => rfl
  obtain ⟨fd_chosen, F_chosen⟩ := c.def_ 12 (d := d_chosen) rfl
  have m_chosen : mg "chosen" = _ := He.glo_ok X G (c.fact 12 (f := .glo "chosen") rfl)
  have S_chosen : Std K mg "chosen" s_chosen ["many", "least", "some"] := std_of F_chosen m_chosen fun _ _ _ _ _ _ us hl => match us, hl with | [_, _, _], _ => rfl
  obtain ⟨fd_meetings_of, F_meetings_of⟩ := c.def_ 13 (d := d_meetings_of) rfl
  have m_meetings_of : mg "meetings_of" = _ := He.glo_ok X G (c.fact 13 (f := .glo "meetings_of") rfl)
  have S_meetings_of : Std K mg "meetings_of" s_meetings_of ["levels", "strength"] := std_of F_meetings_of m_meetings_of fun _ _ _ _ _ _ us hl => match us, hl with | [_, _], _ => rfl
  obtain ⟨fd_all_meetings, F_all_meetings⟩ := c.def_ 14 (d := d_all_meetings) rfl
  have m_all_meetings : mg "all_meetings" = _ := He.glo_ok X G (c.fact 14 (f := .glo "all_meetings") rfl)
  have S_all_meetings : Std K mg "all_meetings" s_all_meetings ["book", "strength"] := std_of F_all_meetings m_all_meetings fun _ _ _ _ _ _ us hl => match us, hl with | [_, _], _ => rfl
  obtain ⟨fd_possible_of, F_possible_of⟩ := c.def_ 15 (d := d_possible_of) rfl
  have m_possible_of : mg "possible_of" = _ := He.glo_ok X G (c.fact 15 (f := .glo "possible_of") rfl)
  have S_possible_of : Std K mg "possible_of" s_possible_of ["book", "strength"] := std_of F_possible_of m_possible_of fun _ _ _ _ _ _ us hl => match us, hl with | [_, _], _ => rfl
  obtain ⟨fd_possible, F_possible⟩ := c.def_ 16 (d := d_possible) rfl
  have m_possible : mg "possible" = _ := He.glo_ok X G (c.fact 16 (f := .glo "possible") rfl)
  have S_possible : Std K mg "possible" s_possible ["book", "strength"] := std_of F_possible m_possible fun _ _ _ _ _ _ us hl => match us, hl with | [_, _], _ => rfl
  obtain ⟨fd_impossible, F_impossible⟩ := c.def_ 17 (d := d_impossible) rfl
  have m_impossible : mg "impossible" = _ := He.glo_ok X G (c.fact 17 (f := .glo "impossible") rfl)
  have S_impossible : Std K mg "impossible" s_impossible ["book", "strength"] := std_of F_impossible m_impossible fun _ _ _ _ _ _ us hl => match us, hl with | [_, _], _ => rfl
  obtain ⟨fd_look_cover, F_look_cover⟩ := c.def_ 18 (d := d_look_cover) rfl
  have m_look_cover : mg "look_cover" = _ := He.glo_ok X G (c.fact 18 (f := .glo "look_cover") rfl)
  have S_look_cover : Std K mg "look_cover" s_look_cover ["book", "strength", "tests"] := std_of F_look_cover m_look_cover fun _ _ _ _ _ _ us hl => match us, hl with | [_, _, _], _ => rfl
  obtain ⟨fd_unmet, F_unmet⟩ := c.def_ 19 (d := d_unmet) rfl
  have m_unmet : mg "unmet" = _ := He.glo_ok X G (c.fact 19 (f := .glo "unmet") rfl)
  have S_unmet : Std K mg "unmet" s_unmet ["some", "tests"] := std_of F_unmet m_unmet fun _ _ _ _ _ _ us hl => match us, hl with | [_, _], _ => rfl
  obtain ⟨fd_missing, F_missing⟩ := c.def_ 20 (d := d_missing) rfl
  have m_missing : mg "missing" = _ := He.glo_ok X G (c.fact 20 (f := .glo "missing") rfl)
  have S_missing : Std K mg "missing" s_missing ["book", "strength", "tests"] := std_of F_missing m_missing fun _ _ _ _ _ _ us hl => match us, hl with | [_, _, _], _ => rfl
  obtain ⟨fd_is_cover, F_is_cover⟩ := c.def_ 21 (d := d_is_cover) rfl
  have m_is_cover : mg "is_cover" = _ := He.glo_ok X G (c.fact 21 (f := .glo "is_cover") rfl)
  have S_is_cover : Std K mg "is_cover" s_is_cover ["book", "strength", "tests"] := std_of F_is_cover m_is_cover fun _ _ _ _ _ _ us hl => match us, hl with | [_, _, _], _ => rfl
  obtain ⟨fd_without, F_without⟩ := c.def_ 22 (d := d_without) rfl
  have m_without : mg "without" = _ := He.glo_ok X G (c.fact 22 (f := .glo "without") rfl)
  have S_without : Std K mg "without" s_without ["tests", "at"] := std_of F_without m_without fun _ _ _ _ _ _ us hl => match us, hl with | [_, _], _ => rfl
  obtain ⟨fd_needless, F_needless⟩ := c.def_ 23 (d := d_needless) rfl
  have m_needless : mg "needless" = _ := He.glo_ok X G (c.fact 23 (f := .glo "needless") rfl)
  have S_needless : Std K mg "needless" s_needless ["book", "strength", "tests"] := std_of F_needless m_needless fun _ _ _ _ _ _ us hl => match us, hl with | [_, _, _], _ => rfl
  obtain ⟨fd_trimmed_of, F_trimmed_of⟩ := c.def_ 24 (d := d_trimmed_of) rfl
  have m_trimmed_of : mg "trimmed_of" = _ := He.glo_ok X G (c.fact 24 (f := .glo "trimmed_of") rfl)
  have S_trimmed_of : Std K mg "trimmed_of" s_trimmed_of ["some", "tests"] := std_of F_trimmed_of m_trimmed_of fun _ _ _ _ _ _ us hl => match us, hl with | [_, _], _ => rfl
  obtain ⟨fd_trimmed, F_trimmed⟩ := c.def_ 25 (d := d_trimmed) rfl
  have m_trimmed : mg "trimmed" = _ := He.glo_ok X G (c.fact 25 (f := .glo "trimmed") rfl)
  have S_trimmed : Std K mg "trimmed" s_trimmed ["book", "strength", "tests"] := std_of F_trimmed m_trimmed fun _ _ _ _ _ _ us hl => match us, hl with | [_, _, _], _ => rfl
  obtain ⟨fd_new_met, F_new_met⟩ := c.def_ 26 (d := d_new_met) rfl
  have m_new_met : mg "new_met" = _ := He.glo_ok X G (c.fact 26 (f := .glo "new_met") rfl)
  have S_new_met : Std K mg "new_met" s_new_met ["some", "test"] := std_of F_new_met m_new_met fun _ _ _ _ _ _ us hl => match us, hl with | [_, _], _ => rfl
  obtain ⟨fd_in_order, F_in_order⟩ := c.def_ 27 (d := d_in_order) rfl
  have m_in_order : mg "in_order" = _ := He.glo_ok X G (c.fact 27 (f := .glo "in_order") rfl)
  have S_in_order : Std K mg "in_order" s_in_order ["book", "strength", "tests"] := std_of F_in_order m_in_order fun _ _ _ _ _ _ us hl => match us, hl with | [_, _, _], _ => rfl
  obtain ⟨fd_filled, F_filled⟩ := c.def_ 28 (d := d_filled) rfl
  have m_filled : mg "filled" = _ := He.glo_ok X G (c.fact 28 (f := .glo "filled") rfl)
  have S_filled : Std K mg "filled" s_filled ["book", "some", "tests"] := std_of F_filled m_filled fun _ _ _ _ _ _ us hl => match us, hl with | [_, _, _], _ => rfl
  obtain ⟨fd_built, F_built⟩ := c.def_ 29 (d := d_built) rfl
  have m_built : mg "built" = _ := He.glo_ok X G (c.fact 29 (f := .glo "built") rfl)
  have S_built : Std K mg "built" s_built ["book", "strength"] := std_of F_built m_built fun _ _ _ _ _ _ us hl => match us, hl with | [_, _], _ => rfl
  obtain ⟨fd_look_results, F_look_results⟩ := c.def_ 30 (d := d_look_results) rfl
  have m_look_results : mg "look_results" = _ := He.glo_ok X G (c.fact 30 (f := .glo "look_results") rfl)
  have S_look_results : Std K mg "look_results" s_look_results ["book", "strength", "tests", "results"] := std_of F_look_results m_look_results fun _ _ _ _ _ _ us hl => match us, hl with | [_, _, _, _], _ => rfl
  obtain ⟨fd_results_by, F_results_by⟩ := c.def_ 31 (d := d_results_by) rfl
  have m_results_by : mg "results_by" = _ := He.glo_ok X G (c.fact 31 (f := .glo "results_by") rfl)
  have S_results_by : Std K mg "results_by" s_results_by ["meeting", "tests"] := std_of F_results_by m_results_by fun _ _ _ _ _ _ us hl => match us, hl with | [_, _], _ => rfl
  obtain ⟨fd_suspects_of, F_suspects_of⟩ := c.def_ 32 (d := d_suspects_of) rfl
  have m_suspects_of : mg "suspects_of" = _ := He.glo_ok X G (c.fact 32 (f := .glo "suspects_of") rfl)
  have S_suspects_of : Std K mg "suspects_of" s_suspects_of ["book", "strength", "tests", "results"] := std_of F_suspects_of m_suspects_of fun _ _ _ _ _ _ us hl => match us, hl with | [_, _, _, _], _ => rfl
  obtain ⟨fd_suspects, F_suspects⟩ := c.def_ 33 (d := d_suspects) rfl
  have m_suspects : mg "suspects" = _ := He.glo_ok X G (c.fact 33 (f := .glo "suspects") rfl)
  have S_suspects : Std K mg "suspects" s_suspects ["book", "strength", "tests", "results"] := std_of F_suspects m_suspects fun _ _ _ _ _ _ us hl => match us, hl with | [_, _, _, _], _ => rfl
  obtain ⟨fd_blurred, F_blurred⟩ := c.def_ 34 (d := d_blurred) rfl
  have m_blurred : mg "blurred" = _ := He.glo_ok X G (c.fact 34 (f := .glo "blurred") rfl)
  have S_blurred : Std K mg "blurred" s_blurred ["book", "strength", "tests"] := std_of F_blurred m_blurred fun _ _ _ _ _ _ us hl => match us, hl with | [_, _, _], _ => rfl
  obtain ⟨fd_next_test, F_next_test⟩ := c.def_ 35 (d := d_next_test) rfl
  have m_next_test : mg "next_test" = _ := He.glo_ok X G (c.fact 35 (f := .glo "next_test") rfl)
  have S_next_test : Std K mg "next_test" s_next_test ["book", "strength", "tests", "results"] := std_of F_next_test m_next_test fun _ _ _ _ _ _ us hl => match us, hl with | [_, _, _, _], _ => rfl
  obtain ⟨fd_most_looked, F_most_looked⟩ := c.def_ 36 (d := d_most_looked) rfl
  have m_most_looked : mg "most_looked" = _ := He.glo_ok X G (c.fact 36 (f := .glo "most_looked") rfl)
  have S_most_looked : Std K mg "most_looked" s_most_looked ["book", "strength", "tests"] := std_of F_most_looked m_most_looked fun _ _ _ _ _ _ us hl => match us, hl with | [_, _, _], _ => rfl
  obtain ⟨fd_look_small, F_look_small⟩ := c.def_ 37 (d := d_look_small) rfl
  have m_look_small : mg "look_small" = _ := He.glo_ok X G (c.fact 37 (f := .glo "look_small") rfl)
  have S_look_small : Std K mg "look_small" s_look_small ["book", "strength"] := std_of F_look_small m_look_small fun _ _ _ _ _ _ us hl => match us, hl with | [_, _], _ => rfl
  obtain ⟨fd_fewest, F_fewest⟩ := c.def_ 38 (d := d_fewest) rfl
  have m_fewest : mg "fewest" = _ := He.glo_ok X G (c.fact 38 (f := .glo "fewest") rfl)
  have S_fewest : Std K mg "fewest" s_fewest ["book", "strength"] := std_of F_fewest m_fewest fun _ _ _ _ _ _ us hl => match us, hl with | [_, _], _ => rfl
  obtain ⟨fd_apart, F_apart⟩ := c.def_ 39 (d := d_apart) rfl
  have m_apart : mg "apart" = _ := He.glo_ok X G (c.fact 39 (f := .glo "apart") rfl)
  have S_apart : Std K mg "apart" s_apart ["book", "strength"] := std_of F_apart m_apart fun _ _ _ _ _ _ us hl => match us, hl with | [_, _], _ => rfl
  obtain ⟨fd_look_rows, F_look_rows⟩ := c.def_ 40 (d := d_look_rows) rfl
  have m_look_rows : mg "look_rows" = _ := He.glo_ok X G (c.fact 40 (f := .glo "look_rows") rfl)
  have S_look_rows : Std K mg "look_rows" s_look_rows ["tests"] := std_of F_look_rows m_look_rows fun _ _ _ _ _ _ us hl => match us, hl with | [_], _ => rfl
  obtain ⟨fd_kept, F_kept⟩ := c.def_ 41 (d := d_kept) rfl
  have m_kept : mg "kept" = _ := He.glo_ok X G (c.fact 41 (f := .glo "kept") rfl)
  have S_kept : Std K mg "kept" s_kept ["book", "strength", "tests"] := std_of F_kept m_kept fun _ _ _ _ _ _ us hl => match us, hl with | [_, _, _], _ => rfl
  obtain ⟨fd_look_many, F_look_many⟩ := c.def_ 42 (d := d_look_many) rfl
  have m_look_many : mg "look_many" = _ := He.glo_ok X G (c.fact 42 (f := .glo "look_many") rfl)
  have S_look_many : Std K mg "look_many" s_look_many ["many"] := std_of F_look_many m_look_many fun _ _ _ _ _ _ us hl => match us, hl with | [_], _ => rfl
  obtain ⟨fd_tree, F_tree⟩ := c.def_ 43 (d := d_tree) rfl
  have m_tree : mg "tree" = _ := He.glo_ok X G (c.fact 43 (f := .glo "tree") rfl)
  have S_tree : Std K mg "tree" s_tree ["yard", "left", "many"] := std_of F_tree m_tree fun _ _ _ _ _ _ us hl => match us, hl with | [_, _, _], _ => rfl
  obtain ⟨fd_paper, F_paper⟩ := c.def_ 44 (d := d_paper) rfl
  have m_paper : mg "paper" = _ := He.glo_ok X G (c.fact 44 (f := .glo "paper") rfl)
  have S_paper : Std K mg "paper" s_paper ["book", "strength", "many"] := std_of F_paper m_paper fun _ _ _ _ _ _ us hl => match us, hl with | [_, _, _], _ => rfl
  obtain ⟨fd_holds_apart, F_holds_apart⟩ := c.def_ 45 (d := d_holds_apart) rfl
  have m_holds_apart : mg "holds_apart" = _ := He.glo_ok X G (c.fact 45 (f := .glo "holds_apart") rfl)
  have S_holds_apart : Std K mg "holds_apart" s_holds_apart ["book", "strength", "many", "thing"] := std_of F_holds_apart m_holds_apart fun _ _ _ _ _ _ us hl => match us, hl with | [_, _, _, _], _ => rfl
  obtain ⟨fd_holds_tree, F_holds_tree⟩ := c.def_ 46 (d := d_holds_tree) rfl
  have m_holds_tree : mg "holds_tree" = _ := He.glo_ok X G (c.fact 46 (f := .glo "holds_tree") rfl)
  have S_holds_tree : Std K mg "holds_tree" s_holds_tree ["book", "strength", "taken", "many", "thing"] := std_of F_holds_tree m_holds_tree fun _ _ _ _ _ _ us hl => match us, hl with | [_, _, _, _, _], _ => rfl
  obtain ⟨fd_is_paper, F_is_paper⟩ := c.def_ 47 (d := d_is_paper) rfl
  have m_is_paper : mg "is_paper" = _ := He.glo_ok X G (c.fact 47 (f := .glo "is_paper") rfl)
  have S_is_paper : Std K mg "is_paper" s_is_paper ["book", "strength", "many", "thing"] := std_of F_is_paper m_is_paper fun _ _ _ _ _ _ us hl => match us, hl with | [_, _, _, _], _ => rfl
  obtain ⟨fd_l_cell, F_l_cell⟩ := c.def_ 48 (d := d_l_cell) rfl
  have m_l_cell : mg "_law_cell" = _ := He.glo_ok X G (c.fact 48 (f := .glo "_law_cell") rfl)
  have S_l_cell : Std K mg "_law_cell" s_l_cell ["_law_script", "_law_k"] := std_of F_l_cell m_l_cell fun _ _ _ _ _ _ us hl => match us, hl with | [_, _], _ => rfl
  obtain ⟨fd_l_mix, F_l_mix⟩ := c.def_ 49 (d := d_l_mix) rfl
  have m_l_mix : mg "_law_mix" = _ := He.glo_ok X G (c.fact 49 (f := .glo "_law_mix") rfl)
  have S_l_mix : Std K mg "_law_mix" s_l_mix ["_law_cell_here", "_law_prime", "_law_many"] := std_of F_l_mix m_l_mix fun _ _ _ _ _ _ us hl => match us, hl with | [_, _, _], _ => rfl
  obtain ⟨fd_l_book, F_l_book⟩ := c.def_ 50 (d := d_l_book) rfl
  have m_l_book : mg "_law_book" = _ := He.glo_ok X G (c.fact 50 (f := .glo "_law_book") rfl)
  have S_l_book : Std K mg "_law_book" s_l_book ["_law_script", "_law_at"] := std_of F_l_book m_l_book fun _ _ _ _ _ _ us hl => match us, hl with | [_, _], _ => rfl
  obtain ⟨fd_l_rows, F_l_rows⟩ := c.def_ 51 (d := d_l_rows) rfl
  have m_l_rows : mg "_law_rows" = _ := He.glo_ok X G (c.fact 51 (f := .glo "_law_rows") rfl)
  have S_l_rows : Std K mg "_law_rows" s_l_rows ["_law_levels"] := std_of F_l_rows m_l_rows fun _ _ _ _ _ _ us hl => match us, hl with | [_], _ => rfl
  obtain ⟨fd_l_meets, F_l_meets⟩ := c.def_ 52 (d := d_l_meets) rfl
  have m_l_meets : mg "_law_meets" = _ := He.glo_ok X G (c.fact 52 (f := .glo "_law_meets") rfl)
  have S_l_meets : Std K mg "_law_meets" s_l_meets ["_law_test", "_law_meeting"] := std_of F_l_meets m_l_meets fun _ _ _ _ _ _ us hl => match us, hl with | [_, _], _ => rfl
  obtain ⟨fd_l_tests, F_l_tests⟩ := c.def_ 53 (d := d_l_tests) rfl
  have m_l_tests : mg "_law_tests" = _ := He.glo_ok X G (c.fact 53 (f := .glo "_law_tests") rfl)
  have S_l_tests : Std K mg "_law_tests" s_l_tests ["_law_book_here"] := std_of F_l_tests m_l_tests fun _ _ _ _ _ _ us hl => match us, hl with | [_], _ => rfl
  obtain ⟨fd_l_drawn, F_l_drawn⟩ := c.def_ 54 (d := d_l_drawn) rfl
  have m_l_drawn : mg "_law_drawn" = _ := He.glo_ok X G (c.fact 54 (f := .glo "_law_drawn") rfl)
  have S_l_drawn : Std K mg "_law_drawn" s_l_drawn ["_law_script", "_law_at", "_law_book_here", "_law_most"] := std_of F_l_drawn m_l_drawn fun _ _ _ _ _ _ us hl => match us, hl with | [_, _, _, _], _ => rfl
  obtain ⟨fd_l_by_strength, F_l_by_strength⟩ := c.def_ 55 (d := d_l_by_strength) rfl
  have m_l_by_strength : mg "_law_by_strength" = _ := He.glo_ok X G (c.fact 55 (f := .glo "_law_by_strength") rfl)
  have S_l_by_strength : Std K mg "_law_by_strength" s_l_by_strength ["_law_way", "_law_book_here", "_law_bad"] := std_of F_l_by_strength m_l_by_strength fun _ _ _ _ _ _ us hl => match us, hl with | [_, _, _], _ => rfl
  obtain ⟨fd_l_more, F_l_more⟩ := c.def_ 56 (d := d_l_more) rfl
  have m_l_more : mg "_law_more" = _ := He.glo_ok X G (c.fact 56 (f := .glo "_law_more") rfl)
  have S_l_more : Std K mg "_law_more" s_l_more ["_law_way", "_law_book_here", "_law_bad"] := std_of F_l_more m_l_more fun _ _ _ _ _ _ us hl => match us, hl with | [_, _, _], _ => rfl
  obtain ⟨fd_l_by_tests, F_l_by_tests⟩ := c.def_ 57 (d := d_l_by_tests) rfl
  have m_l_by_tests : mg "_law_by_tests" = _ := He.glo_ok X G (c.fact 57 (f := .glo "_law_by_tests") rfl)
  have S_l_by_tests : Std K mg "_law_by_tests" s_l_by_tests ["_law_way", "_law_book_here", "_law_bad"] := std_of F_l_by_tests m_l_by_tests fun _ _ _ _ _ _ us hl => match us, hl with | [_, _, _], _ => rfl
  obtain ⟨fd_l_told, F_l_told⟩ := c.def_ 58 (d := d_l_told) rfl
  have m_l_told : mg "_law_told" = _ := He.glo_ok X G (c.fact 58 (f := .glo "_law_told") rfl)
  have S_l_told : Std K mg "_law_told" s_l_told ["_law_sort", "_law_way", "_law_book_here", "_law_bad"] := std_of F_l_told m_l_told fun _ _ _ _ _ _ us hl => match us, hl with | [_, _, _, _], _ => rfl
  obtain ⟨fd_law, F_law⟩ := c.def_ 59 (d := d_law) rfl
  have m_law : mg "law" = _ := He.glo_ok X G (c.fact 59 (f := .glo "law") rfl)
  have S_law : Std K mg "law" s_law ["_law_script"] := std_of F_law m_law fun _ _ _ _ _ _ us hl => match us, hl with | [_], _ => rfl
  obtain ⟨fd_bad, F_bad⟩ := c.def_ 60 (d := d_bad) rfl
  have S_bad : ∃ fd, Fun K "__init__" "BadTests.__init__" s_bad (He.ma K (gaS K "BadTests") "__init__") fd ∧ Binds K fd ["self", "text", "at"] [] := fun_of F_bad fun _ _ _ _ _ _ us hl => match us, hl with | [_, _, _], _ => rfl
  have D : Defs K mg := ⟨S_is_within, S_is_meeting, S_rows_in, S_is_book, S_checked, S_look_strength, S_meets, S_is_allowed, S_rows_of, S_tests_of, S_is_row, S_look_tests, S_chosen, S_meetings_of, S_all_meetings, S_possible_of, S_possible, S_impossible, S_look_cover, S_unmet, S_missing, S_is_cover, S_without, S_needless, S_trimmed_of, S_trimmed, S_new_met, S_in_order, S_filled, S_built, S_look_results, S_results_by, S_suspects_of, S_suspects, S_blurred, S_next_test, S_most_looked, S_look_small, S_fewest, S_apart, S_look_rows, S_kept, S_look_many, S_tree, S_paper, S_holds_apart, S_holds_tree, S_is_paper, S_l_cell, S_l_mix, S_l_book, S_l_rows, S_l_meets, S_l_tests, S_l_drawn, S_l_by_strength, S_l_more, S_l_by_tests, S_l_told, S_law, S_bad⟩
  exact law_end (st := s_law) X G hfa F_law m_law (fun _ _ _ _ _ _ us hl => match us, hl with | [_], _ => rfl) fun base _ _ => D_all rfl T D
end K02
open PySem PySem.W PySem.Calls PyProof.Rows
theorem PySem.Challenge.cw_pairtests_k02_strengths_and_tests_holds : PySem.Challenge.rw_pairtests_k02_strengths_and_tests.Holds := by
  w_on; o_law
  refine HandSHeadRun.head_any (r := OpenLaw.row PySem.Challenge.rw_pairtests_k02_strengths_and_tests) (q := view (OpenLaw.row PySem.Challenge.rw_pairtests_k02_strengths_and_tests).prog [83]) (H := K02.hk) (ob := K02.ob) (M := 4000) (loose := K02.loose) (d := HandSHeadRun.topDef (OpenLaw.row PySem.Challenge.rw_pairtests_k02_strengths_and_tests).prog 83) (kwd := []) K02.ob_eq
    (by kernel_rfl) (fun s => by kernel_rfl) K02.run (by kernel_rfl) (by kernel_rfl) (by kernel_rfl) (by rfl) (by first | assumption | decide +kernel) (by decide +kernel) ⟨rfl, rfl, rfl, rfl, rfl, by decide +kernel⟩ ?hw ?hc
  case hw => w_witness2
  case hc =>
    refine L2.walk_ofW (l := PySem.Challenge.rw_pairtests_k02_strengths_and_tests) (n := 63) (k := 15) (x := "_law_script") rfl (by decide) (by kernel_rfl) ⟨rfl, by decide, by decide⟩ ?F (fun _ _ _ _ _ z => DL.cx_false z)
    intro w mg fa h Y G hmg0
    obtain ⟨K, KX, c, cx, nl⟩ := Y
    have hmg : mg ("law" : PySem.Str) = some (.ref fa) := by
      have e : (HandSHeadRun.topDef (OpenLaw.row PySem.Challenge.rw_pairtests_k02_strengths_and_tests).prog 83).name = ("law" : PySem.Str) := by kernel_rfl
      rw [← e]
      exact hmg0
    obtain ⟨fd, hb, hF⟩ := K02.facts (P := (PySem.Challenge.rw_pairtests_k02_strengths_and_tests).prog) (w := w) KX G hmg c cx
    exact ⟨K, fd, _, KX, hb, fun H a ns hl _ hS => by letI : DL.Wd := K02.wd w K; exact DL.hsp_D nl hS hl (by decide) (K02.law_ok ns hl), hF⟩

