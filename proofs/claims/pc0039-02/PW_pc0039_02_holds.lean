import PyProof.Rows.All
import Wide.All
import OpenK.AllK
import Wide.FinOn
import Lean
import PySem.Challenge.RW_pc0039_02
open PySem PySem.W PySem.Calls PyProof.Rows
set_option Elab.async false
set_option genSizeOf false
set_option maxRecDepth 100000
set_option linter.unusedVariables false
set_option linter.unusedSectionVars false
set_option linter.unusedSimpArgs false
namespace PyW
/-- what a value is, as plain data; `ref a` is an object at the address `a` that is still changed, `obj` an object of a class with its dict at `d` -/
inductive V where
  | none
  | bool (b : Bool)
  | int (i : Int)
  | str (s : String)
  | tup (l : List V)
  | list (l : List V)
  | dict (l : List (Int × V))
  | rng (a b : Int)
  | obj (c : String) (d : Addr)
  | ref (a : Addr)
  deriving Inhabited
/-- objects that may still change -/
inductive O where
  | list (l : List V)
  | dict (l : List (Int × V))
  | sdict (l : List (String × V))
  | ns (l : List (String × V))
noncomputable abbrev Sg := Addr → Option O
noncomputable abbrev Fm := String → Option V
noncomputable def upd {α β : Type} [DecidableEq α] (f : α → Option β) (a : α) (b : β) : α → Option β := fun x => if x = a then some b else f x
theorem upd_same {α β : Type} [DecidableEq α] (f : α → Option β) (a : α) (b : β) : upd f a b a = some b := by simp [upd]
theorem upd_ne {α β : Type} [DecidableEq α] (f : α → Option β) {a c : α} (b : β) (h : c ≠ a) : upd f a b c = f c := by simp [upd, h]
theorem upd_upd {α β : Type} [DecidableEq α] (f : α → Option β) (a : α) (b b' : β) : upd (upd f a b) a b' = upd f a b' := by
  funext x; simp only [upd]; split <;> rfl
noncomputable abbrev S (x : String) : Str := Str.ofString x
theorem S_inj {x y : String} (h : S x = S y) : x = y := by
  have e : (⟨(x.toList.map Char.toNat).toArray⟩ : Str) = ⟨(y.toList.map Char.toNat).toArray⟩ := by
    rw [← Str.ofString_eq_toList, ← Str.ofString_eq_toList]; exact h
  have e1 : x.toList.map Char.toNat = y.toList.map Char.toNat := by simpa using e
  have inj : ∀ a b : Char, a.toNat = b.toNat → a = b := fun a b h => by
    have : a.val = b.val := by
      apply UInt32.toNat_inj.mp; exact h
    exact Char.ext this
  have : x.toList = y.toList := by
    generalize x.toList = l at e1
    generalize y.toList = r at e1
    induction l generalizing r with
    | nil => cases r with
      | nil => rfl
      | cons _ _ => simp at e1
    | cons a l ih => cases r with
      | nil => simp at e1
      | cons b r =>
        simp only [List.map_cons, List.cons.injEq] at e1
        rw [inj a b e1.1, ih r e1.2]
  exact String.toList_injective this
/-- the world of one law: the program, the part of the heap that is written out, the heap at the call, the globals -/
structure Cx where
  prog : Program
  w : World
  K : Frag
  base : Heap
  mg : Str → Option Value
  mb : Str → Option Value
section rel
variable (c : Cx) (h : Heap) (own : Addr → Prop)
/-- a str's, an int's entries of a dict -/
noncomputable def KeyIs (e : DictEntry) (k : Int) : Prop := ∃ t, e.key = .int k t ∧ e.hash = hashInt k
mutual
noncomputable def RelV : V → Value → Prop
  | .none, r => r = .none
  | .bool b, r => r = .bool b
  | .int i, r => ∃ t, r = .int i t
  | .str s, r => ∃ t, r = .str (S s) t
  | .tup l, r => ∃ a arr n, r = .ref a ∧ h.get? a = some { cls := .type "tuple", data := .seq arr n } ∧ ¬ own a ∧ arr.size ≤ sizeLine ∧ RelVs l arr.toList
  | .list l, r => ∃ a arr n, r = .ref a ∧ h.get? a = some { cls := .type "list", data := .seq arr n } ∧ ¬ own a ∧ arr.size ≤ sizeLine ∧ RelVs l arr.toList
  | .dict l, r => ∃ a es n, r = .ref a ∧ h.get? a = some { cls := .type "dict", data := .dict es n } ∧ ¬ own a ∧ a ≠ sysModules ∧ es.size ≤ sizeLine ∧ (l.map (·.1)).Nodup ∧ RelD l es.toList
  | .rng x y, r => ∃ a t u v, r = .ref a ∧ IsRange h a x y 1 t u v ∧ ¬ own a
  | .obj cl d, r => ∃ a C, r = .ref a ∧ c.mg (S cl) = some (.ref C) ∧ h.get? a = some (instObj C d) ∧ ¬ own a
  | .ref a, r => r = .ref a
noncomputable def RelVs : List V → List Value → Prop
  | [], [] => True
  | v :: vs, r :: rs => RelV v r ∧ RelVs vs rs
  | _, _ => False
noncomputable def RelD : List (Int × V) → List DictEntry → Prop
  | [], [] => True
  | (k, v) :: l, e :: es => KeyIs e k ∧ RelV v e.val ∧ RelD l es
  | _, _ => False
end
/-- the entries of an object's own dict, or of a dict with strs for keys -/
noncomputable def RelN : List (String × V) → List DictEntry → Prop
  | [], [] => True
  | (k, v) :: l, e :: es => (∃ t, e.key = .str (S k) t) ∧ e.hash = PyData.keyHash c.w.params (S k) ∧ RelV c h own v e.val ∧ RelN l es
  | _, _ => False
noncomputable def ObjIs (o : O) (ob : Obj) : Prop := match o with
  | .list l => ∃ arr n, ob = { cls := .type "list", data := .seq arr n } ∧ arr.size ≤ sizeLine ∧ RelVs c h own l arr.toList
  | .dict l => ∃ es n, ob = { cls := .type "dict", data := .dict es n } ∧ es.size ≤ sizeLine ∧ (l.map (·.1)).Nodup ∧ RelD c h own l es.toList
  | .sdict l => ∃ es n, ob = { cls := .type "dict", data := .dict es n } ∧ es.size ≤ sizeLine ∧ (l.map (·.1)).Nodup ∧ RelN c h own l es.toList
  | .ns l => ∃ es n, ob = dictOf es n ∧ (l.map (·.1)).Nodup ∧ RelN c h own l es
end rel
/-- nothing that is not owned changes, and nothing that stood becomes owned -/
structure Ext (h : Heap) (own : Addr → Prop) (h' : Heap) (own' : Addr → Prop) : Prop where
  keep : ∀ a o, h.get? a = some o → ¬ own a → h'.get? a = some o
  free : ∀ a o, h.get? a = some o → ¬ own a → ¬ own' a
theorem Ext.refl (h : Heap) (own : Addr → Prop) : Ext h own h own := ⟨fun _ _ e _ => e, fun _ _ _ n => n⟩
theorem Ext.trans {h h' h'' : Heap} {own own' own'' : Addr → Prop} (x : Ext h own h' own') (y : Ext h' own' h'' own'') : Ext h own h'' own'' :=
  ⟨fun a o e n => y.keep a o (x.keep a o e n) (x.free a o e n), fun a o e n => y.free a o (x.keep a o e n) (x.free a o e n)⟩
section ext
variable {c : Cx} {h h' : Heap} {own own' : Addr → Prop} (X : Ext h own h' own')
include X
mutual
theorem RelV.ext : ∀ {v : V} {r : Value}, RelV c h own v r → RelV c h' own' v r
  | .none, _, e => e
  | .bool _, _, e => e
  | .int _, _, e => e
  | .str _, _, e => e
  | .tup l, _, e => by
    simp only [RelV] at e ⊢
    obtain ⟨a, arr, n, e1, e2, e3, e4, e5⟩ := e
    exact ⟨a, arr, n, e1, X.keep _ _ e2 e3, X.free _ _ e2 e3, e4, RelVs.ext e5⟩
  | .list l, _, e => by
    simp only [RelV] at e ⊢
    obtain ⟨a, arr, n, e1, e2, e3, e4, e5⟩ := e
    exact ⟨a, arr, n, e1, X.keep _ _ e2 e3, X.free _ _ e2 e3, e4, RelVs.ext e5⟩
  | .dict l, _, e => by
    simp only [RelV] at e ⊢
    obtain ⟨a, arr, n, e1, e2, e3, e7, e4, e6, e5⟩ := e
    exact ⟨a, arr, n, e1, X.keep _ _ e2 e3, X.free _ _ e2 e3, e7, e4, e6, RelD.ext e5⟩
  | .rng _ _, _, e => by
    simp only [RelV] at e ⊢
    obtain ⟨a, t, u, v, e1, e2, e3⟩ := e
    exact ⟨a, t, u, v, e1, X.keep _ _ e2 e3, X.free _ _ e2 e3⟩
  | .obj _ _, _, e => by
    simp only [RelV] at e ⊢
    obtain ⟨a, C, e1, e2, e3, e4⟩ := e
    exact ⟨a, C, e1, e2, X.keep _ _ e3 e4, X.free _ _ e3 e4⟩
  | .ref _, _, e => e
theorem RelVs.ext : ∀ {l : List V} {rs : List Value}, RelVs c h own l rs → RelVs c h' own' l rs
  | [], [], _ => by simp [RelVs]
  | v :: l, r :: rs, e => by
    simp only [RelVs] at e ⊢
    exact ⟨RelV.ext e.1, RelVs.ext e.2⟩
  | [], _ :: _, e => by simp [RelVs] at e
  | _ :: _, [], e => by simp [RelVs] at e
theorem RelD.ext : ∀ {l : List (Int × V)} {es : List DictEntry}, RelD c h own l es → RelD c h' own' l es
  | [], [], _ => by simp [RelD]
  | (k, v) :: l, r :: rs, e => by
    simp only [RelD] at e ⊢
    exact ⟨e.1, RelV.ext e.2.1, RelD.ext e.2.2⟩
  | [], _ :: _, e => by simp [RelD] at e
  | _ :: _, [], e => by simp [RelD] at e
end
theorem RelN.ext {l : List (String × V)} : ∀ {es : List DictEntry}, RelN c h own l es → RelN c h' own' l es := by
  induction l with
  | nil => intro es e; cases es with | nil => exact e | cons _ _ => exact e
  | cons p l ih =>
    intro es e
    cases es with
    | nil => exact e
    | cons d es => exact ⟨e.1, e.2.1, RelV.ext X e.2.2.1, ih e.2.2.2⟩
theorem ObjIs.ext {o : O} {ob : Obj} (e : ObjIs c h own o ob) : ObjIs c h' own' o ob := by
  cases o with
  | list l => obtain ⟨a, n, e1, e0, e2⟩ := e; exact ⟨a, n, e1, e0, e2.ext X⟩
  | dict l => obtain ⟨a, n, e1, e0, e2, e3⟩ := e; exact ⟨a, n, e1, e0, e2, e3.ext X⟩
  | sdict l => obtain ⟨a, n, e1, e0, e2, e3⟩ := e; exact ⟨a, n, e1, e0, e2, e3.ext X⟩
  | ns l => obtain ⟨a, n, e1, e2, e3⟩ := e; exact ⟨a, n, e1, e2, e3.ext X⟩
end ext
noncomputable abbrev Rw := Addr → Option Obj
noncomputable def own (σ : Sg) (R : Rw) (a : Addr) : Prop := σ a ≠ none ∨ R a ≠ none
structure Inv (c : Cx) (h : Heap) (σ : Sg) (R : Rw) : Prop where
  base : ∀ b o, c.base.get? b = some o → h.get? b = some o
  baseFree : ∀ b o, c.base.get? b = some o → ¬ own σ R b
  objs : ∀ a o, σ a = some o → ∃ ob, h.get? a = some ob ∧ ObjIs c h (own σ R) o ob
  raw : ∀ a o, R a = some o → h.get? a = some o
  disj : ∀ a o, σ a = some o → R a = none
  lo : ∀ a o, σ a = some o → a ≠ sysModules
  top : ∃ b o, @LT.lt Nat _ sysModules b ∧ c.base.get? b = some o
theorem RelVs.length {c : Cx} {h : Heap} {own : Addr → Prop} : ∀ {l : List V} {rs : List Value}, RelVs c h own l rs → l.length = rs.length
  | [], [], _ => rfl
  | _ :: l, _ :: rs, e => by simp only [RelVs] at e; simp [RelVs.length e.2]
  | [], _ :: _, e => by simp [RelVs] at e
  | _ :: _, [], e => by simp [RelVs] at e
theorem RelVs.get {c : Cx} {h : Heap} {own : Addr → Prop} : ∀ {l : List V} {rs : List Value} {i : Nat} {v : V}, RelVs c h own l rs → l[i]? = some v → ∃ r, rs[i]? = some r ∧ RelV c h own v r
  | v :: l, r :: rs, 0, _, e, h => by simp only [RelVs] at e; simp at h; subst h; exact ⟨r, by simp, e.1⟩
  | v :: l, r :: rs, i + 1, w, e, h => by
    simp only [RelVs] at e
    simp at h
    obtain ⟨r', h1, h2⟩ := RelVs.get e.2 h
    exact ⟨r', by simpa using h1, h2⟩
  | [], _, _, _, _, h => by simp at h
  | _ :: _, [], _, _, e, _ => by simp [RelVs] at e
theorem RelVs.get' {c : Cx} {h : Heap} {own : Addr → Prop} {l : List V} {rs : List Value} {i : Nat} {r : Value} (e : RelVs c h own l rs) (hr : rs[i]? = some r) : ∃ v, l[i]? = some v ∧ RelV c h own v r := by
  have hi : i < l.length := by rw [e.length]; exact (List.getElem?_eq_some_iff.mp hr).1
  obtain ⟨r', h1, h2⟩ := e.get (List.getElem?_eq_getElem hi)
  rw [hr] at h1; cases h1
  exact ⟨_, List.getElem?_eq_getElem hi, h2⟩
theorem RelVs.append {c : Cx} {h : Heap} {own : Addr → Prop} : ∀ {l l' : List V} {rs rs' : List Value}, RelVs c h own l rs → RelVs c h own l' rs' → RelVs c h own (l ++ l') (rs ++ rs')
  | [], _, [], _, _, e => e
  | _ :: l, _, _ :: rs, _, e, e' => by simp only [RelVs, List.cons_append] at e ⊢; exact ⟨e.1, e.2.append e'⟩
  | [], _, _ :: _, _, e, _ => by simp [RelVs] at e
  | _ :: _, _, [], _, e, _ => by simp [RelVs] at e
theorem RelVs.nil {c : Cx} {h : Heap} {own : Addr → Prop} : RelVs c h own [] [] := by simp [RelVs]
theorem RelVs.cons {c : Cx} {h : Heap} {own : Addr → Prop} {v : V} {r : Value} {l : List V} {rs : List Value} (e : RelV c h own v r) (e' : RelVs c h own l rs) : RelVs c h own (v :: l) (r :: rs) := by
  simp only [RelVs]; exact ⟨e, e'⟩
theorem RelVs.snoc {c : Cx} {h : Heap} {own : Addr → Prop} {v : V} {r : Value} {l : List V} {rs : List Value} (e' : RelVs c h own l rs) (e : RelV c h own v r) : RelVs c h own (l ++ [v]) (rs ++ [r]) := e'.append (.cons e .nil)
section inv
variable {c : Cx} {h h' : Heap} {σ σ' : Sg} {R R' : Rw}
theorem get_size (h : Heap) : h.get? h.objs.size = none := by
  cases e : h.get? h.objs.size with
  | none => rfl
  | some o => exact absurd (Heap.lt_size e) (Nat.lt_irrefl _)
theorem Inv.own_get (I : Inv c h σ R) {a : Addr} (e : own σ R a) : ∃ o, h.get? a = some o := by
  rcases e with e | e
  · cases q : σ a with
    | none => exact absurd q e
    | some o => obtain ⟨ob, hb, _⟩ := I.objs a o q; exact ⟨ob, hb⟩
  · cases q : R a with
    | none => exact absurd q e
    | some o => exact ⟨o, I.raw a o q⟩
theorem Inv.fresh (I : Inv c h σ R) : ¬ own σ R h.objs.size := fun e => by
  obtain ⟨o, q⟩ := I.own_get e
  rw [get_size] at q; cases q
theorem Inv.fresh_base (I : Inv c h σ R) : c.base.get? h.objs.size = none := by
  cases e : c.base.get? h.objs.size with
  | none => rfl
  | some o => exact absurd (I.base _ _ e) (by rw [get_size]; exact fun q => nomatch q)
/-- a heap that keeps all that stood -/
theorem Ext.keeps (k : ∀ a o, h.get? a = some o → h'.get? a = some o) : Ext h (own σ R) h' (own σ R) := ⟨fun a o e _ => k a o e, fun _ _ _ n => n⟩
theorem Inv.keeps (I : Inv c h σ R) (k : ∀ a o, h.get? a = some o → h'.get? a = some o) : Inv c h' σ R :=
  ⟨fun b o e => k _ _ (I.base b o e), I.baseFree, fun a o e => let ⟨ob, q, r⟩ := I.objs a o e; ⟨ob, k _ _ q, r.ext (Ext.keeps k)⟩, fun a o e => k _ _ (I.raw a o e), I.disj, I.lo, I.top⟩
theorem Inv.push (I : Inv c h σ R) (o : Obj) : Inv c (h.push o) σ R := I.keeps fun _ _ e => Heap.get?_push_of_some o e
/-- what a raw object's turn does to what is owned -/
theorem own_updR {a : Addr} {o : Obj} (x : Addr) : own σ (upd R a o) x ↔ (own σ R x ∨ x = a) := by
  unfold own upd
  by_cases e : x = a
  · subst e; simp
  · simp [e]
theorem own_upd {a : Addr} {o : O} (x : Addr) : own (upd σ a o) R x ↔ (own σ R x ∨ x = a) := by
  unfold own upd
  by_cases e : x = a
  · subst e; simp
  · simp [e]
/-- a new object that is held raw -/
theorem Ext.rawNew (k : ∀ a o, h.get? a = some o → h'.get? a = some o) {a : Addr} {o : Obj} (ha : h.get? a = none) : Ext h (own σ R) h' (own σ (upd R a o)) :=
  ⟨fun b o e _ => k b o e, fun b o e n q => by
    rcases (own_updR b).mp q with q | q
    · exact n q
    · subst q; rw [ha] at e; cases e⟩
theorem Inv.rawNew (I : Inv c h σ R) (k : ∀ a o, h.get? a = some o → h'.get? a = some o) {a : Addr} {o : Obj} (ha : h.get? a = none) (ho : h'.get? a = some o) : Inv c h' σ (upd R a o) := by
  have X : Ext h (own σ R) h' (own σ (upd R a o)) := Ext.rawNew k ha
  refine ⟨fun b o e => k _ _ (I.base b o e), fun b o e q => ?_, fun b o e => let ⟨ob, q, r⟩ := I.objs b o e; ⟨ob, k _ _ q, r.ext X⟩, fun b o e => ?_, fun b o e => ?_, I.lo, I.top⟩
  · rcases (own_updR b).mp q with q | q
    · exact I.baseFree b o e q
    · subst q; have := I.base _ _ e; rw [ha] at this; cases this
  · unfold upd at e
    split at e
    · rename_i q; subst q; cases e; exact ho
    · exact k _ _ (I.raw b o e)
  · have hb : b ≠ a := fun q => by obtain ⟨ob, q1, _⟩ := I.objs b o e; rw [q, ha] at q1; cases q1
    rw [upd_ne _ _ hb]; exact I.disj b o e
/-- a raw object turns -/
theorem own_updR_same {a : Addr} {o o' : Obj} (ha : R a = some o) : own σ (upd R a o') = own σ R := by
  funext x
  refine propext ⟨fun q => ?_, fun q => (own_updR x).mpr (.inl q)⟩
  rcases (own_updR x).mp q with q | q
  · exact q
  · subst q; exact .inr (by rw [ha]; exact fun e => nomatch e)
theorem Inv.rawSet (I : Inv c h σ R) {a : Addr} {o o' : Obj} (ha : R a = some o) (k : ∀ b, b ≠ a → ∀ o, h.get? b = some o → h'.get? b = some o) (ho : h'.get? a = some o') :
    Inv c h' σ (upd R a o') ∧ Ext h (own σ R) h' (own σ (upd R a o')) := by
  have X : Ext h (own σ R) h' (own σ (upd R a o')) := by
    rw [own_updR_same ha]
    exact ⟨fun b o e n => k b (fun q => n (by subst q; exact .inr (by rw [ha]; exact fun e => nomatch e))) o e, fun _ _ _ n => n⟩
  refine ⟨⟨fun b o e => k _ (fun q => I.baseFree b o e (by subst q; exact .inr (by rw [ha]; exact fun e => nomatch e))) _ (I.base b o e), fun b o e => by rw [own_updR_same ha]; exact I.baseFree b o e, fun b o e => ?_, fun b o e => ?_, fun b o e => ?_, I.lo, I.top⟩, X⟩
  · obtain ⟨ob, q, r⟩ := I.objs b o e
    have hb : b ≠ a := fun q => by have := I.disj b o e; rw [q, ha] at this; cases this
    exact ⟨ob, k _ hb _ q, r.ext X⟩
  · unfold upd at e
    split at e
    · rename_i q; subst q; cases e; exact ho
    · rename_i q; exact k _ q _ (I.raw b o e)
  · have hb : b ≠ a := fun q => by have := I.disj b o e; rw [q, ha] at this; cases this
    rw [upd_ne _ _ hb]; exact I.disj b o e
/-- raw objects that are let go -/
theorem Ext.rawLess {S : Rw} (hR : ∀ a o, S a = some o → R a = some o) : Ext h (own σ R) h (own σ S) :=
  ⟨fun _ _ e _ => e, fun a _ _ n q => n (q.imp id fun q => by
    cases e : S a with
    | none => exact absurd e q
    | some o => rw [hR a o e]; exact fun z => nomatch z)⟩
theorem Inv.rawLess (I : Inv c h σ R) {S : Rw} (hR : ∀ a o, S a = some o → R a = some o) : Inv c h σ S := by
  have X : Ext h (own σ R) h (own σ S) := Ext.rawLess hR
  have sub : ∀ a, own σ S a → own σ R a := fun a q => q.imp id fun q => by
    cases e : S a with
    | none => exact absurd e q
    | some o => rw [hR a o e]; exact fun z => nomatch z
  refine ⟨I.base, fun b o e q => I.baseFree b o e (sub _ q), fun a o e => let ⟨ob, q, r⟩ := I.objs a o e; ⟨ob, q, r.ext X⟩, fun a o e => I.raw a o (hR a o e), fun a o e => ?_, I.lo, I.top⟩
  cases q : S a with
  | none => rfl
  | some o' => have := I.disj a o e; rw [hR a o' q] at this; cases this
/-- a new owned object -/
theorem Ext.ownNew (k : ∀ a o, h.get? a = some o → h'.get? a = some o) {a : Addr} {o : O} (ha : h.get? a = none) : Ext h (own σ R) h' (own (upd σ a o) R) :=
  ⟨fun b o e _ => k b o e, fun b o e n q => by
    rcases (own_upd b).mp q with q | q
    · exact n q
    · subst q; rw [ha] at e; cases e⟩
theorem Inv.ownNew (I : Inv c h σ R) (k : ∀ a o, h.get? a = some o → h'.get? a = some o) {a : Addr} {o : O} {ob : Obj} (ha : h.get? a = none) (h1 : a ≠ sysModules) (ho : h'.get? a = some ob) (hr : ObjIs c h (own σ R) o ob) : Inv c h' (upd σ a o) R := by
  have X : Ext h (own σ R) h' (own (upd σ a o) R) := Ext.ownNew k ha
  refine ⟨fun b o e => k _ _ (I.base b o e), fun b o e q => ?_, fun b o e => ?_, fun b o e => k _ _ (I.raw b o e), fun b o e => ?_, fun b o e => ?_, I.top⟩
  · rcases (own_upd b).mp q with q | q
    · exact I.baseFree b o e q
    · subst q; have := I.base _ _ e; rw [ha] at this; cases this
  · unfold upd at e
    split at e
    · rename_i q; subst q; cases e; exact ⟨ob, ho, hr.ext X⟩
    · obtain ⟨ob, q, r⟩ := I.objs b o e; exact ⟨ob, k _ _ q, r.ext X⟩
  · unfold upd at e
    split at e
    · rename_i q; subst q
      cases q : R b with
      | none => rfl
      | some o' => have := I.raw _ _ q; rw [ha] at this; cases this
    · exact I.disj b o e
  · unfold upd at e
    split at e
    · rename_i q; subst q; exact h1
    · exact I.lo b o e
/-- an owned object turns -/
theorem own_upd_same {a : Addr} {o o' : O} (ha : σ a = some o) : own (upd σ a o') R = own σ R := by
  funext x
  refine propext ⟨fun q => ?_, fun q => (own_upd x).mpr (.inl q)⟩
  rcases (own_upd x).mp q with q | q
  · exact q
  · subst q; exact .inl (by rw [ha]; exact fun e => nomatch e)
theorem Inv.ownSet (I : Inv c h σ R) {a : Addr} {o o' : O} {ob : Obj} (ha : σ a = some o) (k : ∀ b, b ≠ a → ∀ o, h.get? b = some o → h'.get? b = some o) (ho : h'.get? a = some ob)
    (hr : ObjIs c h (own σ R) o' ob) : Inv c h' (upd σ a o') R ∧ Ext h (own σ R) h' (own (upd σ a o') R) := by
  have X : Ext h (own σ R) h' (own (upd σ a o') R) := by
    rw [own_upd_same ha]
    exact ⟨fun b o e n => k b (fun q => n (by subst q; exact .inl (by rw [ha]; exact fun e => nomatch e))) o e, fun _ _ _ n => n⟩
  refine ⟨⟨fun b o e => k _ (fun q => I.baseFree b o e (by subst q; exact .inl (by rw [ha]; exact fun e => nomatch e))) _ (I.base b o e), fun b o e => by rw [own_upd_same ha]; exact I.baseFree b o e, fun b o e => ?_, fun b o e => ?_, fun b o e => ?_, fun b o e => ?_, I.top⟩, X⟩
  · unfold upd at e
    split at e
    · rename_i q; subst q; cases e; exact ⟨ob, ho, hr.ext X⟩
    · rename_i hb; obtain ⟨ob, q, r⟩ := I.objs b o e; exact ⟨ob, k _ hb _ q, r.ext X⟩
  · refine k _ (fun q => ?_) _ (I.raw b o e)
    have := I.disj a _ ha; rw [q, this] at e; cases e
  · unfold upd at e
    split at e
    · rename_i q; subst q; exact I.disj b _ ha
    · exact I.disj b o e
  · unfold upd at e
    split at e
    · rename_i q; subst q; exact I.lo _ _ ha
    · exact I.lo b o e
/-- what is owned may be let go: it stands for good -/
theorem Ext.less {τ : Sg} (hs : ∀ a o, τ a = some o → σ a = some o) : Ext h (own σ R) h (own τ R) :=
  ⟨fun _ _ e _ => e, fun a _ _ n q => n (q.imp (fun q => by
    cases e : τ a with
    | none => exact absurd e q
    | some o => rw [hs a o e]; exact fun z => nomatch z) id)⟩
theorem Inv.less (I : Inv c h σ R) {τ : Sg} (hs : ∀ a o, τ a = some o → σ a = some o) : Inv c h τ R := by
  have X : Ext h (own σ R) h (own τ R) := Ext.less hs
  refine ⟨I.base, fun b o e q => I.baseFree b o e (q.imp (fun q => by
    cases e : τ b with
    | none => exact absurd e q
    | some o => rw [hs b o e]; exact fun z => nomatch z) id), fun a o e => let ⟨ob, q, r⟩ := I.objs a o (hs a o e); ⟨ob, q, r.ext X⟩, I.raw, fun a o e => I.disj a o (hs a o e), fun a o e => I.lo a o (hs a o e), I.top⟩
theorem Inv.fresh1 (I : Inv c h σ R) : h.objs.size ≠ sysModules := fun q => by
  obtain ⟨b, o, h1, h2⟩ := I.top
  have := Heap.lt_size (I.base _ _ h2)
  rw [q] at this
  exact absurd (Nat.lt_trans h1 this) (Nat.lt_irrefl _)
end inv
end PyW
namespace PyW
/-! ### equality -/
mutual
noncomputable def toPy : V → PyData
  | .none => .none
  | .bool b => .bool b
  | .int i => .int i
  | .str s => .str (S s)
  | .tup l => .tuple (toPys l)
  | .list l => .list (toPys l)
  | _ => .none
noncomputable def toPys : List V → List PyData
  | [] => []
  | v :: l => toPy v :: toPys l
end
mutual
noncomputable def plain : Nat → V → Prop
  | _, .none => True
  | _, .bool _ => True
  | _, .int _ => True
  | _, .str _ => True
  | n + 1, .tup l => plains n l
  | n + 1, .list l => plains n l
  | _, _ => False
noncomputable def plains : Nat → List V → Prop
  | _, [] => True
  | n, v :: l => plain n v ∧ plains n l
end
noncomputable def pyEq (a b : V) : Bool := PyData.eqv (toPy a) (toPy b)
noncomputable def pyEqs (a b : List V) : Bool := PyData.eqvAll (toPys a) (toPys b)
theorem strOk_S (s : String) : PyData.strOk (S s) = true := by
  unfold PyData.strOk
  rw [show S s = ⟨(s.toList.map Char.toNat).toArray⟩ from Str.ofString_eq_toList s]
  simp only [List.all_toArray, List.all_eq_true, List.mem_map, decide_eq_true_eq]
  rintro x ⟨ch, _, rfl⟩
  have := ch.valid
  rcases this with h | h
  · show ch.val.toNat < _; have : ch.val.toNat < 0xd800 := h; omega
  · exact h.2
mutual
theorem plain_shape : ∀ {n : Nat} {v : V}, plain n v → (toPy v).canLay0 = true ∧ (toPy v).depth ≤ n
  | _, .none, _ => ⟨by simp [toPy, PyData.canLay0], by simp [toPy, PyData.depth]⟩
  | _, .bool _, _ => ⟨by simp [toPy, PyData.canLay0], by simp [toPy, PyData.depth]⟩
  | _, .int _, _ => ⟨by simp [toPy, PyData.canLay0], by simp [toPy, PyData.depth]⟩
  | _, .str s, _ => ⟨by simp [toPy, PyData.canLay0, strOk_S], by simp [toPy, PyData.depth]⟩
  | n + 1, .tup l, h => by
    simp only [plain] at h
    have := plains_shape h
    simp only [toPy, PyData.canLay0, PyData.depth]
    exact ⟨this.1, by omega⟩
  | n + 1, .list l, h => by
    simp only [plain] at h
    have := plains_shape h
    simp only [toPy, PyData.canLay0, PyData.depth]
    exact ⟨this.1, by omega⟩
  | 0, .tup _, h => by simp [plain] at h
  | 0, .list _, h => by simp [plain] at h
  | 0, .dict _, h => by simp [plain] at h
  | _ + 1, .dict _, h => by simp [plain] at h
  | 0, .rng .., h => by simp [plain] at h
  | _ + 1, .rng .., h => by simp [plain] at h
  | 0, .obj .., h => by simp [plain] at h
  | _ + 1, .obj .., h => by simp [plain] at h
  | 0, .ref _, h => by simp [plain] at h
  | _ + 1, .ref _, h => by simp [plain] at h
theorem plains_shape : ∀ {n : Nat} {l : List V}, plains n l → PyData.canLayAll0 (toPys l) = true ∧ PyData.depthAll (toPys l) ≤ n
  | _, [], _ => by simp [toPys, PyData.canLayAll0, PyData.depthAll]
  | n, v :: l, h => by
    simp only [plains] at h
    have h1 := plain_shape h.1
    have h2 := plains_shape h.2
    simp only [toPys, PyData.canLayAll0, PyData.depthAll, h1.1, h2.1]
    exact ⟨rfl, by omega⟩
end
section
variable {c : Cx} {h : Heap} {own : Addr → Prop}
mutual
theorem plain_reads : ∀ {n : Nat} {v : V} {r : Value}, plain n v → RelV c h own v r → ∃ as, Reads h r (toPy v) as
  | _, .none, _, _, e => by simp only [RelV] at e; subst e; simp only [toPy]; exact ⟨_, .none⟩
  | _, .bool _, _, _, e => by simp only [RelV] at e; subst e; simp only [toPy]; exact ⟨_, .bool _⟩
  | _, .int _, _, _, e => by simp only [RelV] at e; obtain ⟨t, rfl⟩ := e; simp only [toPy]; exact ⟨_, .int _ _⟩
  | _, .str s, _, _, e => by simp only [RelV] at e; obtain ⟨t, rfl⟩ := e; simp only [toPy]; exact ⟨_, .str _ _⟩
  | n + 1, .tup l, _, p, e => by
    simp only [plain] at p
    simp only [RelV] at e
    obtain ⟨a, arr, m, rfl, e2, _, _, e5⟩ := e
    obtain ⟨as, q⟩ := plains_reads p e5
    simp only [toPy]
    exact ⟨_, reads_tuple_at e2 rfl rfl q⟩
  | n + 1, .list l, _, p, e => by
    simp only [plain] at p
    simp only [RelV] at e
    obtain ⟨a, arr, m, rfl, e2, _, _, e5⟩ := e
    obtain ⟨as, q⟩ := plains_reads p e5
    simp only [toPy]
    exact ⟨_, reads_list_at e2 rfl rfl q⟩
  | 0, .tup _, _, h, _ => by simp [plain] at h
  | 0, .list _, _, h, _ => by simp [plain] at h
  | 0, .dict _, _, h, _ => by simp [plain] at h
  | _ + 1, .dict _, _, h, _ => by simp [plain] at h
  | 0, .rng .., _, h, _ => by simp [plain] at h
  | _ + 1, .rng .., _, h, _ => by simp [plain] at h
  | 0, .obj .., _, h, _ => by simp [plain] at h
  | _ + 1, .obj .., _, h, _ => by simp [plain] at h
  | 0, .ref _, _, h, _ => by simp [plain] at h
  | _ + 1, .ref _, _, h, _ => by simp [plain] at h
theorem plains_reads : ∀ {n : Nat} {l : List V} {rs : List Value}, plains n l → RelVs c h own l rs → ∃ as, ReadsAll h rs (toPys l) as
  | _, [], [], _, _ => by simp only [toPys]; exact ⟨_, .nil⟩
  | n, v :: l, r :: rs, p, e => by
    simp only [plains] at p
    simp only [RelVs] at e
    obtain ⟨as, q1⟩ := plain_reads p.1 e.1
    obtain ⟨bs, q2⟩ := plains_reads p.2 e.2
    simp only [toPys]
    exact ⟨_, .cons q1 q2⟩
  | _, [], _ :: _, _, e => by simp [RelVs] at e
  | _, _ :: _, [], _, e => by simp [RelVs] at e
end
end
/-! ### room, frames -/
noncomputable def Room (n : Nat) (A : Around) : Prop := A.handled = none ∧ A.depth + 2 * n + 2 ≤ 900 ∧ A.units + 20 * n + 100 ≤ 9000
theorem Room.units {n : Nat} {A : Around} (r : Room n A) : A.units < cLine := by have := r.2.2; show A.units < 9900; omega
theorem Room.units64 {n : Nat} {A : Around} (r : Room n A) : A.units + 64 < cLine := by have := r.2.2; show A.units + 64 < 9900; omega
theorem Room.depth {n : Nat} {A : Around} (r : Room n A) : A.depth < recursionLimit := by have := r.2.1; show A.depth < 1000; omega
noncomputable def NsO (o : Obj) (m : Str → Option Value) : Prop := ∃ es ep, o.data = .dict es ep ∧ StrKeys es ∧ ∀ x, nsFind es x = m x
theorem NsO.ns {h : Heap} {a : Addr} {o : Obj} {m : Str → Option Value} (n : NsO o m) (e : h.get? a = some o) : h.Ns a m := let ⟨es, ep, a1, a2, a3⟩ := n; ⟨o, es, ep, e, a1, a2, a3⟩
theorem NsO.of {h : Heap} {a : Addr} {m : Str → Option Value} (n : h.Ns a m) : ∃ o, h.get? a = some o ∧ NsO o m := let ⟨o, es, ep, e, a1, a2, a3⟩ := n; ⟨o, e, es, ep, a1, a2, a3⟩
/-- where a name's value lies -/
noncomputable def VarAt (env : Env) (R : Rw) (m : Str → Option Value) (X : Str) (rv : Value) : Prop :=
  (env.kindOf X = some .local ∧ m X = some rv) ∨ ((env.kindOf X = some .cell ∨ env.kindOf X = some .free) ∧ ∃ a o, env.cells.lookup X = some a ∧ R a = some o ∧ o.data = .cell (some rv))
structure FrOK (c : Cx) (h : Heap) (ow : Addr → Prop) (R : Rw) (env : Env) (fr : Fm) : Prop where
  kind : env.scope.kind = .function
  gl : env.globals = mainGlobals
  bl : env.builtins = builtinsNs
  loc : ∃ o m, R env.locals = some o ∧ NsO o m ∧ ∀ x v, fr x = some v → ∃ rv, RelV c h ow v rv ∧ VarAt env R m (S x) rv
  cells : ∀ X a, env.cells.lookup X = some a → a ≠ env.locals ∧ ∃ o v₀, R a = some o ∧ o.data = .cell v₀
  inj : ∀ X Y a, env.cells.lookup X = some a → env.cells.lookup Y = some a → X = Y
  cellIn : ∀ X, env.kindOf X = some .cell → ∃ a, env.cells.lookup X = some a
theorem FrOK.ext {c : Cx} {h h' : Heap} {ow ow' : Addr → Prop} {R : Rw} {env : Env} {fr : Fm} (F : FrOK c h ow R env fr) (X : Ext h ow h' ow') : FrOK c h' ow' R env fr :=
  ⟨F.kind, F.gl, F.bl, let ⟨o, m, a, b, d⟩ := F.loc; ⟨o, m, a, b, fun x v e => let ⟨rv, q, r⟩ := d x v e; ⟨rv, q.ext X, r⟩⟩, F.cells, F.inj, F.cellIn⟩
/-- a run of a tree from a state to a value, told in plain data -/
noncomputable def PostE (c : Cx) (σ : Sg) (R : Rw) (s : Shared) (Q : V → Sg → Prop) (rv : Value) (s' : Shared) : Prop :=
  ∃ h' tk v σ', s' = { s with heap := h', toks := tk } ∧ Inv c h' σ' R ∧ Ext s.heap (own σ R) h' (own σ' R) ∧ RelV c h' (own σ' R) v rv ∧ Q v σ'
noncomputable def SemV (c : Cx) (A : Around) (s : Shared) (σ : Sg) (R : Rw) (t : Sem Value) (Q : V → Sg → Prop) : Prop :=
  wpAny (model c.prog c.w) A t (PostE c σ R s Q) (fun _ _ => False) s
noncomputable def SemE (c : Cx) (n : Nat) (env : Env) (e : Expr) (fr : Fm) (σ : Sg) (Q : V → Sg → Prop) : Prop :=
  ∀ A s R, Room n A → Inv c s.heap σ R → FrOK c s.heap (own σ R) R env fr → SemV c A s σ R (eval e env) Q
theorem PostE.trans {c : Cx} {σ σ₁ : Sg} {R : Rw} {s : Shared} {h₁ : Heap} {t₁ : Nat} {Q : V → Sg → Prop} {rv : Value} {s' : Shared} (X : Ext s.heap (own σ R) h₁ (own σ₁ R))
    (p : PostE c σ₁ R { s with heap := h₁, toks := t₁ } Q rv s') : PostE c σ R s Q rv s' := by
  obtain ⟨h', tk, v, σ', rfl, I, Y, r, q⟩ := p
  exact ⟨h', tk, v, σ', rfl, I, X.trans Y, r, q⟩
theorem PostE.mono {c : Cx} {σ : Sg} {R : Rw} {s : Shared} {Q Q' : V → Sg → Prop} {rv : Value} {s' : Shared} (k : ∀ v σ, Q v σ → Q' v σ) (p : PostE c σ R s Q rv s') : PostE c σ R s Q' rv s' := by
  obtain ⟨h', tk, v, σ', e, I, Y, r, q⟩ := p
  exact ⟨h', tk, v, σ', e, I, Y, r, k _ _ q⟩
theorem SemV.mono {c : Cx} {A : Around} {s : Shared} {σ : Sg} {R : Rw} {t : Sem Value} {Q Q' : V → Sg → Prop} (h : SemV c A s σ R t Q) (k : ∀ v σ, Q v σ → Q' v σ) : SemV c A s σ R t Q' :=
  wpAny_mono h (fun _ _ p => p.mono k) fun _ _ e => e
theorem SemE.mono {c : Cx} {n : Nat} {env : Env} {e : Expr} {fr : Fm} {σ : Sg} {Q Q' : V → Sg → Prop} (h : SemE c n env e fr σ Q) (k : ∀ v σ, Q v σ → Q' v σ) : SemE c n env e fr σ Q' :=
  fun A s R a b d => (h A s R a b d).mono k
theorem SemV.then {c : Cx} {A : Around} {s : Shared} {σ : Sg} {R : Rw} {t : Sem Value} {Q : V → Sg → Prop} {K : Value → Shared → Prop} (h : SemV c A s σ R t Q)
    (k : ∀ rv h₁ t₁ v σ₁, Inv c h₁ σ₁ R → Ext s.heap (own σ R) h₁ (own σ₁ R) → RelV c h₁ (own σ₁ R) v rv → Q v σ₁ → K rv { s with heap := h₁, toks := t₁ }) :
    wpAny (model c.prog c.w) A t K (fun _ _ => False) s :=
  wpAny_mono h (fun rv s' p => by obtain ⟨h', tk, v, σ', rfl, I, X, r, q⟩ := p; exact k rv h' tk v σ' I X r q) fun _ _ e => e
theorem SemV.trans {c : Cx} {A : Around} {s : Shared} {σ σ₁ : Sg} {R : Rw} {h₁ : Heap} {t₁ : Nat} {t : Sem Value} {Q : V → Sg → Prop} (X : Ext s.heap (own σ R) h₁ (own σ₁ R))
    (h : SemV c A { s with heap := h₁, toks := t₁ } σ₁ R t Q) : wpAny (model c.prog c.w) A t (PostE c σ R s Q) (fun _ _ => False) { s with heap := h₁, toks := t₁ } :=
  wpAny_mono h (fun _ _ p => p.trans X) fun _ _ e => e
section
variable {c : Cx} {A : Around} {s : Shared} {σ : Sg} {R : Rw} {Q : V → Sg → Prop}
/-- a value that needs no new object -/
theorem PostE.val {tk : Nat} {v : V} {rv : Value} (I : Inv c s.heap σ R) (r : RelV c s.heap (own σ R) v rv) (q : Q v σ) : PostE c σ R s Q rv { s with toks := tk } :=
  ⟨s.heap, tk, v, σ, rfl, I, Ext.refl _ _, r, q⟩
theorem PostE.here {v : V} {rv : Value} (I : Inv c s.heap σ R) (r : RelV c s.heap (own σ R) v rv) (q : Q v σ) : PostE c σ R s Q rv s :=
  ⟨s.heap, s.toks, v, σ, rfl, I, Ext.refl _ _, r, q⟩
theorem PostE.int {tk t : Nat} {i : Int} (I : Inv c s.heap σ R) (q : Q (.int i) σ) : PostE c σ R s Q (.int i t) { s with toks := tk } := .val I (by simp [RelV]) q
theorem PostE.bool {b : Bool} (I : Inv c s.heap σ R) (q : Q (.bool b) σ) : PostE c σ R s Q (.bool b) s := .here I (by simp [RelV]) q
/-- a new tuple, list -/
theorem PostE.tup {tk : Nat} {l : List V} {rs : List Value} (I : Inv c s.heap σ R) (r : RelVs c s.heap (own σ R) l rs) (hz : rs.length ≤ sizeLine) (q : Q (.tup l) σ) :
    PostE c σ R s Q (.ref s.heap.objs.size) { s with heap := s.heap.push { cls := .type "tuple", data := .seq rs.toArray }, toks := tk } := by
  have k : ∀ a o, s.heap.get? a = some o → (s.heap.push { cls := .type "tuple", data := .seq rs.toArray }).get? a = some o := fun _ _ e => Heap.get?_push_of_some _ e
  refine ⟨_, tk, .tup l, σ, rfl, I.push _, Ext.keeps k, ?_, q⟩
  simp only [RelV]
  exact ⟨_, rs.toArray, 0, rfl, Heap.get?_push_size _ rfl, I.fresh, by simpa using hz, by simpa using r.ext (Ext.keeps k)⟩
theorem PostE.lst {tk : Nat} {l : List V} {rs : List Value} (I : Inv c s.heap σ R) (r : RelVs c s.heap (own σ R) l rs) (hz : rs.length ≤ sizeLine) (q : Q (.list l) σ) :
    PostE c σ R s Q (.ref s.heap.objs.size) { s with heap := s.heap.push { cls := .type "list", data := .seq rs.toArray }, toks := tk } := by
  have k : ∀ a o, s.heap.get? a = some o → (s.heap.push { cls := .type "list", data := .seq rs.toArray }).get? a = some o := fun _ _ e => Heap.get?_push_of_some _ e
  refine ⟨_, tk, .list l, σ, rfl, I.push _, Ext.keeps k, ?_, q⟩
  simp only [RelV]
  exact ⟨_, rs.toArray, 0, rfl, Heap.get?_push_size _ rfl, I.fresh, by simpa using hz, by simpa using r.ext (Ext.keeps k)⟩
theorem PostE.lstO {tk : Nat} {l : List V} {rs : List Value} (I : Inv c s.heap σ R) (r : RelVs c s.heap (own σ R) l rs) (hz : rs.length ≤ sizeLine) (q : ∀ a, σ a = none → Q (.ref a) (upd σ a (.list l))) :
    PostE c σ R s Q (.ref s.heap.objs.size) { s with heap := s.heap.push { cls := .type "list", data := .seq rs.toArray }, toks := tk } := by
  have k : ∀ a o, s.heap.get? a = some o → (s.heap.push { cls := .type "list", data := .seq rs.toArray }).get? a = some o := fun _ _ e => Heap.get?_push_of_some _ e
  refine ⟨_, tk, .ref s.heap.objs.size, upd σ s.heap.objs.size (.list l), rfl, I.ownNew k (get_size _) I.fresh1 (Heap.get?_push_size _ rfl) ⟨_, 0, rfl, by simpa using hz, by simpa using r⟩, Ext.ownNew k (get_size _), by simp [RelV], q _ ?_⟩
  cases e : σ s.heap.objs.size with
  | none => rfl
  | some o => exact absurd (.inl (by rw [e]; exact fun z => nomatch z)) I.fresh
end
/-! ### operators -/
inductive BO where | add | sub | mul | fdiv | mod
inductive CO where | eq | ne | lt | le | gt | ge
noncomputable def BO.op : BO → Operator | .add => .Add | .sub => .Sub | .mul => .Mult | .fdiv => .FloorDiv | .mod => .Mod
noncomputable def CO.op : CO → CmpOp | .eq => .Eq | .ne => .NotEq | .lt => .Lt | .le => .LtE | .gt => .Gt | .ge => .GtE
/-! looks at a value -/
noncomputable def onI (v : V) (f : Int → Prop) : Prop := match v with | .int i => f i | _ => False
noncomputable def onTp (v : V) (f : List V → Prop) : Prop := match v with | .tup l => f l | _ => False
noncomputable def onLs (v : V) (f : List V → Prop) : Prop := match v with | .list l => f l | _ => False
noncomputable def onRf (v : V) (f : Addr → Prop) : Prop := match v with | .ref a => f a | _ => False
noncomputable def on0 (l : List V) (p : Prop) : Prop := match l with | [] => p | _ :: _ => False
noncomputable def on1V (l : List V) (f : V → Prop) : Prop := match l with | [] => False | v :: l => on0 l (f v)
noncomputable def on2V (l : List V) (f : V → V → Prop) : Prop := match l with | [] => False | v :: l => on1V l (f v)
theorem onI_of {v : V} {f : Int → Prop} (h : onI v f) : ∃ i, v = .int i ∧ f i := by
  cases v with | int i => exact ⟨i, rfl, h⟩ | _ => exact False.elim h
theorem onTp_of {v : V} {f : List V → Prop} (h : onTp v f) : ∃ i, v = .tup i ∧ f i := by
  cases v with | tup i => exact ⟨i, rfl, h⟩ | _ => exact False.elim h
theorem onLs_of {v : V} {f : List V → Prop} (h : onLs v f) : ∃ i, v = .list i ∧ f i := by
  cases v with | list i => exact ⟨i, rfl, h⟩ | _ => exact False.elim h
theorem onRf_of {v : V} {f : Addr → Prop} (h : onRf v f) : ∃ i, v = .ref i ∧ f i := by
  cases v with | ref i => exact ⟨i, rfl, h⟩ | _ => exact False.elim h
theorem on0_of {l : List V} {p : Prop} (h : on0 l p) : l = [] ∧ p := by
  cases l with | nil => exact ⟨rfl, h⟩ | cons _ _ => exact False.elim h
theorem on1V_of {l : List V} {f : V → Prop} (h : on1V l f) : ∃ v, l = [v] ∧ f v := by
  cases l with | nil => exact False.elim h | cons v l => exact let ⟨e, h⟩ := on0_of h; ⟨v, by rw [e], h⟩
theorem on2V_of {l : List V} {f : V → V → Prop} (h : on2V l f) : ∃ v w, l = [v, w] ∧ f v w := by
  cases l with | nil => exact False.elim h | cons v l => exact let ⟨w, e, h⟩ := on1V_of h; ⟨v, w, by rw [e], h⟩
noncomputable def wAdd (a b : V) (Q : V → Prop) : Prop := match a with
  | .int x => onI b fun y => Q (.int (x + y))
  | .tup l => onTp b fun m => l.length + m.length ≤ sizeLine ∧ Q (.tup (l ++ m))
  | .list l => onLs b fun m => l.length + m.length ≤ sizeLine ∧ Q (.list (l ++ m))
  | _ => False
noncomputable def wBin (op : BO) (a b : V) (Q : V → Prop) : Prop := match op with
  | .add => wAdd a b Q
  | .sub => onI a fun a => onI b fun b => Q (.int (a - b))
  | .mul => onI a fun a => onI b fun b => (a.natAbs < 2 ^ 60 ∨ b.natAbs < 2 ^ 60) ∧ Q (.int (a * b))
  | .fdiv => onI a fun a => onI b fun b => (b ≠ 0 ∧ b.natAbs < 2 ^ 30) ∧ Q (.int (a.fdiv b))
  | .mod => onI a fun a => onI b fun b => b ≠ 0 ∧ Q (.int (a.fmod b))
theorem wBin_cases {C : BO → V → V → Prop} {op : BO} {a b : V} {Q : V → Prop} (h : wBin op a b Q) (c1 : ∀ a b, Q (.int (a + b)) → C .add (.int a) (.int b)) (c2 : ∀ a b, Q (.int (a - b)) → C .sub (.int a) (.int b))
    (c3 : ∀ a b, (a.natAbs < 2 ^ 60 ∨ b.natAbs < 2 ^ 60) ∧ Q (.int (a * b)) → C .mul (.int a) (.int b)) (c4 : ∀ a b, (b ≠ 0 ∧ b.natAbs < 2 ^ 30) ∧ Q (.int (a.fdiv b)) → C .fdiv (.int a) (.int b)) (c5 : ∀ a b, b ≠ 0 ∧ Q (.int (a.fmod b)) → C .mod (.int a) (.int b))
    (c6 : ∀ l m, l.length + m.length ≤ sizeLine ∧ Q (.tup (l ++ m)) → C .add (.tup l) (.tup m)) (c7 : ∀ l m, l.length + m.length ≤ sizeLine ∧ Q (.list (l ++ m)) → C .add (.list l) (.list m)) : C op a b := by
  cases op with
  | add => cases a with
    | int x => obtain ⟨y, rfl, h⟩ := onI_of h; exact c1 _ _ h
    | tup l => obtain ⟨m, rfl, h⟩ := onTp_of h; exact c6 _ _ h
    | list l => obtain ⟨m, rfl, h⟩ := onLs_of h; exact c7 _ _ h
    | _ => exact False.elim h
  | sub => obtain ⟨x, rfl, h⟩ := onI_of h; obtain ⟨y, rfl, h⟩ := onI_of h; exact c2 _ _ h
  | mul => obtain ⟨x, rfl, h⟩ := onI_of h; obtain ⟨y, rfl, h⟩ := onI_of h; exact c3 _ _ h
  | fdiv => obtain ⟨x, rfl, h⟩ := onI_of h; obtain ⟨y, rfl, h⟩ := onI_of h; exact c4 _ _ h
  | mod => obtain ⟨x, rfl, h⟩ := onI_of h; obtain ⟨y, rfl, h⟩ := onI_of h; exact c5 _ _ h
theorem wBin_mono {op : BO} {a b : V} {Q Q' : V → Prop} (h : wBin op a b Q) (k : ∀ v, Q v → Q' v) : wBin op a b Q' :=
  wBin_cases (C := fun op a b => wBin op a b Q') h (fun _ _ h => k _ h) (fun _ _ h => k _ h) (fun _ _ h => ⟨h.1, k _ h.2⟩) (fun _ _ h => ⟨h.1, k _ h.2⟩) (fun _ _ h => ⟨h.1, k _ h.2⟩) (fun _ _ h => ⟨h.1, k _ h.2⟩) (fun _ _ h => ⟨h.1, k _ h.2⟩)
noncomputable def wCmp (op : CO) (a b : V) (Q : Bool → Prop) : Prop := match op with
  | .eq => (plain 8 a ∧ plain 8 b) ∧ Q (pyEq a b)
  | .ne => (plain 8 a ∧ plain 8 b) ∧ Q (!pyEq a b)
  | .lt => onI a fun a => onI b fun b => Q (decide (a < b))
  | .le => onI a fun a => onI b fun b => Q (decide (a ≤ b))
  | .gt => onI a fun a => onI b fun b => Q (decide (a > b))
  | .ge => onI a fun a => onI b fun b => Q (decide (a ≥ b))
theorem wCmp_mono {op : CO} {a b : V} {Q Q' : Bool → Prop} (h : wCmp op a b Q) (k : ∀ v, Q v → Q' v) : wCmp op a b Q' := by
  cases op with
  | eq => exact ⟨h.1, k _ h.2⟩
  | ne => exact ⟨h.1, k _ h.2⟩
  | _ => obtain ⟨x, rfl, h⟩ := onI_of h; obtain ⟨y, rfl, h⟩ := onI_of h; exact k _ h
end PyW
namespace PyW
section
variable {c : Cx} {A : Around} {s : Shared} {σ : Sg} {R : Rw} {Q : V → Sg → Prop} {n : Nat}
theorem bits64 {k : Int} (h : k.natAbs < 2 ^ 60) : Builtin.Int.intBits k ≤ 64 := intBits_le_64 (by omega) (by omega)
theorem mulOk {a b : Int} (h : a.natAbs < 2 ^ 60 ∨ b.natAbs < 2 ^ 60) : IntMulOk a b := by
  unfold IntMulOk
  rcases h with h | h
  · have := bits64 h
    have e : decide (Builtin.Int.intBits a > shortFactorBits) = false := decide_eq_false (by show ¬ _ > 64; omega)
    rw [e]; simp
  · have := bits64 h
    have e : decide (Builtin.Int.intBits b > shortFactorBits) = false := decide_eq_false (by show ¬ _ > 64; omega)
    rw [e]; simp
theorem bin_ok {op : BO} {a b : V} {ra rb : Value} (I : Inv c s.heap σ R) (ha : RelV c s.heap (own σ R) a ra) (hb : RelV c s.heap (own σ R) b rb) (h : wBin op a b fun v => Q v σ) :
    SemV c A s σ R (binaryOp op.op ra rb) Q := by
  refine wBin_cases (C := fun op a b => RelV c s.heap (own σ R) a ra → RelV c s.heap (own σ R) b rb → SemV c A s σ R (binaryOp op.op ra rb) Q) h ?_ ?_ ?_ ?_ ?_ ?_ ?_ ha hb
  · rintro a b h ⟨t, rfl⟩ ⟨u, rfl⟩; exact add_int (.int I h)
  · rintro a b h ⟨t, rfl⟩ ⟨u, rfl⟩; exact sub_int (.int I h)
  · rintro a b h ⟨t, rfl⟩ ⟨u, rfl⟩; exact mul_int (.int I h.2) (mulOk h.1)
  · rintro a b h ⟨t, rfl⟩ ⟨u, rfl⟩; exact floordiv_int h.1.1 (.int I h.2) (.inl (PyProof.noPylong_small h.1.2))
  · rintro a b h ⟨t, rfl⟩ ⟨u, rfl⟩; exact mod_int' h.1 (.int I h.2)
  · intro l m h ha hb
    simp only [RelV] at ha hb
    obtain ⟨x, xs, n1, rfl, h1, h2, h3, h4⟩ := ha
    obtain ⟨y, ys, n2, rfl, k1, k2, k3, k4⟩ := hb
    have len1 := h4.length
    have len2 := k4.length
    simp only [Array.length_toList] at len1 len2
    have both := h4.append k4
    by_cases hv : xs.isEmpty = true
    · refine concat_meets ⟨_, h1, rfl⟩ ⟨_, k1, rfl⟩ noFill_tuple_add seq_tuple_add PySem.F.slot_tuple_add PySem.F.entry_tuple_add (PySem.F.args_tuple_add_2 _ _)
        (tuple_addW0 x y xs ys n1 n2 none none #[] #[] hv) ⟨h1, k1, ?_⟩
      have e : xs = #[] := by simpa using hv
      have el : l = [] := by rw [e] at len1; simpa using len1
      subst el
      refine .here I ?_ h.2
      simp only [RelV, List.nil_append]
      exact ⟨y, ys, n2, rfl, k1, k2, k3, k4⟩
    · by_cases hw : ys.isEmpty = true
      · refine concat_meets ⟨_, h1, rfl⟩ ⟨_, k1, rfl⟩ noFill_tuple_add seq_tuple_add PySem.F.slot_tuple_add PySem.F.entry_tuple_add (PySem.F.args_tuple_add_2 _ _)
          (tuple_addW1 x y xs ys n1 n2 none none #[] #[] hv hw) ⟨h1, k1, ?_⟩
        have e : ys = #[] := by simpa using hw
        have el : m = [] := by rw [e] at len2; simpa using len2
        subst el
        refine .here I ?_ h.2
        simp only [RelV, List.append_nil]
        exact ⟨x, xs, n1, rfl, h1, h2, h3, h4⟩
      · refine concat_meets ⟨_, h1, rfl⟩ ⟨_, k1, rfl⟩ noFill_tuple_add seq_tuple_add PySem.F.slot_tuple_add PySem.F.entry_tuple_add (PySem.F.args_tuple_add_2 _ _)
          (tuple_addW2 x y xs ys n1 n2 none none #[] #[] hv hw (by omega)) ⟨h1, k1, ?_⟩
        have e : xs ++ ys = (xs.toList ++ ys.toList).toArray := by simp
        rw [e]
        exact PostE.tup I both (by simp; omega) h.2
  · intro l m h ha hb
    simp only [RelV] at ha hb
    obtain ⟨x, xs, n1, rfl, h1, h2, h3, h4⟩ := ha
    obtain ⟨y, ys, n2, rfl, k1, k2, k3, k4⟩ := hb
    have len1 := h4.length
    have len2 := k4.length
    simp only [Array.length_toList] at len1 len2
    refine concat_meets ⟨_, h1, rfl⟩ ⟨_, k1, rfl⟩ noFill_list_add seq_list_add PySem.F.slot_list_add PySem.F.entry_list_add (PySem.F.args_list_add_2 _ _) (list_addW x y xs ys n1 n2 none none #[] #[] (by omega)) ⟨h1, k1, ?_⟩
    have e : xs ++ ys = (xs.toList ++ ys.toList).toArray := by simp
    rw [e]
    exact PostE.lst I (h4.append k4) (by simp; omega) h.2
theorem cmp_ok {op : CO} {a b : V} {ra rb : Value} (r : Room n A) (I : Inv c s.heap σ R) (ha : RelV c s.heap (own σ R) a ra) (hb : RelV c s.heap (own σ R) b rb) (h : wCmp op a b fun v => Q (.bool v) σ) :
    SemV c A s σ R (compareOp op.op ra rb) Q := by
  have sh : ∀ {v : V}, plain 8 v → SeqAt.shaped (toPy v) = true := fun p => by
    have := plain_shape p
    unfold SeqAt.shaped
    rw [this.1, Bool.true_and, decide_eq_true_eq]; omega
  cases op with
  | eq =>
    obtain ⟨as, h1⟩ := plain_reads h.1.1 ha
    obtain ⟨bs, h2⟩ := plain_reads h.1.2 hb
    exact SeqAt.compareEq_shaped h1 h2 (sh h.1.1) (sh h.1.2) r.units64 (.bool I h.2)
  | ne =>
    obtain ⟨as, h1⟩ := plain_reads h.1.1 ha
    obtain ⟨bs, h2⟩ := plain_reads h.1.2 hb
    exact SeqAt.compareNe_shaped h1 h2 (sh h.1.1) (sh h.1.2) r.units64 (.bool I h.2)
  | lt => obtain ⟨x, rfl, h⟩ := onI_of h; obtain ⟨y, rfl, h⟩ := onI_of h; obtain ⟨t, rfl⟩ := ha; obtain ⟨u, rfl⟩ := hb; exact PyProof.Rows.lt_int (.bool I h)
  | le => obtain ⟨x, rfl, h⟩ := onI_of h; obtain ⟨y, rfl, h⟩ := onI_of h; obtain ⟨t, rfl⟩ := ha; obtain ⟨u, rfl⟩ := hb; exact PyProof.Rows.le_int (.bool I h)
  | gt => obtain ⟨x, rfl, h⟩ := onI_of h; obtain ⟨y, rfl, h⟩ := onI_of h; obtain ⟨t, rfl⟩ := ha; obtain ⟨u, rfl⟩ := hb; exact PyProof.Rows.gt_int (.bool I h)
  | ge => obtain ⟨x, rfl, h⟩ := onI_of h; obtain ⟨y, rfl, h⟩ := onI_of h; obtain ⟨t, rfl⟩ := ha; obtain ⟨u, rfl⟩ := hb; exact PyProof.Rows.ge_int (.bool I h)
end
end PyW
namespace PyW
theorem S_ne {x y : String} (h : x ≠ y) : (S x == S y) = false := by
  cases e : S x == S y with
  | false => rfl
  | true => exact absurd (S_inj (eq_of_beq e)) h
/-- a run of a tree to anything -/
noncomputable def PostG {α : Type} (c : Cx) (σ : Sg) (R : Rw) (s : Shared) (P : α → Heap → Sg → Prop) (a : α) (s' : Shared) : Prop :=
  ∃ h' tk σ', s' = { s with heap := h', toks := tk } ∧ Inv c h' σ' R ∧ Ext s.heap (own σ R) h' (own σ' R) ∧ P a h' σ'
theorem PostG.trans {α : Type} {c : Cx} {σ σ₁ : Sg} {R : Rw} {s : Shared} {h₁ : Heap} {t₁ : Nat} {P : α → Heap → Sg → Prop} {a : α} {s' : Shared} (X : Ext s.heap (own σ R) h₁ (own σ₁ R))
    (p : PostG c σ₁ R { s with heap := h₁, toks := t₁ } P a s') : PostG c σ R s P a s' := by
  obtain ⟨h', tk, σ', rfl, I, Y, q⟩ := p
  exact ⟨h', tk, σ', rfl, I, X.trans Y, q⟩
noncomputable abbrev PB (Q : Bool → Sg → Prop) : Bool → Heap → Sg → Prop := fun b _ σ => Q b σ
noncomputable abbrev PL (c : Cx) (R : Rw) (Q : List V → Sg → Prop) : List Value → Heap → Sg → Prop := fun rs h σ => ∃ vs, RelVs c h (own σ R) vs rs ∧ Q vs σ
noncomputable def SemB (c : Cx) (n : Nat) (env : Env) (e : Expr) (fr : Fm) (σ : Sg) (Q : Bool → Sg → Prop) : Prop :=
  ∀ A s R, Room n A → Inv c s.heap σ R → FrOK c s.heap (own σ R) R env fr → wpAny (model c.prog c.w) A (isTrue e env (eval e env)) (PostG c σ R s (PB Q)) (fun _ _ => False) s
noncomputable def SemL (c : Cx) (n : Nat) (env : Env) (pos : Pos) (es : List Expr) (fr : Fm) (σ : Sg) (Q : List V → Sg → Prop) : Prop :=
  ∀ A s R, Room n A → Inv c s.heap σ R → FrOK c s.heap (own σ R) R env fr → wpAny (model c.prog c.w) A (spliced (backTo pos (starEach es env))) (PostG c σ R s (PL c R Q)) (fun _ _ => False) s
theorem SemB.mono {c : Cx} {n : Nat} {env : Env} {e : Expr} {fr : Fm} {σ : Sg} {Q Q' : Bool → Sg → Prop} (h : SemB c n env e fr σ Q) (k : ∀ v σ, Q v σ → Q' v σ) : SemB c n env e fr σ Q' :=
  fun A s R a b d => wpAny_mono (h A s R a b d) (fun _ _ p => let ⟨x1, x2, x3, x4, x5, x6, x7⟩ := p; ⟨x1, x2, x3, x4, x5, x6, k _ _ x7⟩) fun _ _ e => e
theorem SemL.mono {c : Cx} {n : Nat} {env : Env} {pos : Pos} {es : List Expr} {fr : Fm} {σ : Sg} {Q Q' : List V → Sg → Prop} (h : SemL c n env pos es fr σ Q) (k : ∀ v σ, Q v σ → Q' v σ) : SemL c n env pos es fr σ Q' :=
  fun A s R a b d => wpAny_mono (h A s R a b d) (fun _ _ p => let ⟨x1, x2, x3, x4, x5, x6, y, x7, x8⟩ := p; ⟨x1, x2, x3, x4, x5, x6, y, x7, k _ _ x8⟩) fun _ _ e => e
theorem PostG.then {α β : Type} {c : Cx} {A : Around} {s : Shared} {σ : Sg} {R : Rw} {t : Sem α} {P : α → Heap → Sg → Prop} {K : α → Shared → Prop} (h : wpAny (model c.prog c.w) A t (PostG c σ R s P) (fun _ _ => False) s)
    (k : ∀ a h₁ t₁ σ₁, Inv c h₁ σ₁ R → Ext s.heap (own σ R) h₁ (own σ₁ R) → P a h₁ σ₁ → K a { s with heap := h₁, toks := t₁ }) :
    wpAny (model c.prog c.w) A t K (fun _ _ => False) s :=
  wpAny_mono h (fun a s' p => by obtain ⟨h', tk, σ', rfl, I, X, q⟩ := p; exact k a h' tk σ' I X q) fun _ _ e => e
theorem PostG.transW {α : Type} {c : Cx} {A : Around} {s : Shared} {σ σ₁ : Sg} {R : Rw} {h₁ : Heap} {t₁ : Nat} {t : Sem α} {P : α → Heap → Sg → Prop} (X : Ext s.heap (own σ R) h₁ (own σ₁ R))
    (h : wpAny (model c.prog c.w) A t (PostG c σ₁ R { s with heap := h₁, toks := t₁ } P) (fun _ _ => False) { s with heap := h₁, toks := t₁ }) :
    wpAny (model c.prog c.w) A t (PostG c σ R s P) (fun _ _ => False) { s with heap := h₁, toks := t₁ } :=
  wpAny_mono h (fun _ _ p => p.trans X) fun _ _ e => e
section
variable {c : Cx} {n : Nat} {env : Env} {fr : Fm} {σ : Sg} {pos : Pos} {k : Nat}
/-! ### constants, names -/
theorem sem_none {Q : V → Sg → Prop} (h : Q .none σ) : SemE c n env (.Constant .none k pos) fr σ Q := fun A s R hR I F => wpAny_Constant_none (.here I (by simp [RelV]) h)
theorem sem_bool {Q : V → Sg → Prop} {b : Bool} (h : Q (.bool b) σ) : SemE c n env (.Constant (.bool b) k pos) fr σ Q := fun A s R hR I F => wpAny_Constant_bool (.here I (by simp [RelV]) h)
theorem sem_int {Q : V → Sg → Prop} {i : Int} (h : Q (.int i) σ) : SemE c n env (.Constant (.int i) k pos) fr σ Q := fun A s R hR I F => wpAny_Constant_int (.int I h)
theorem sem_str {Q : V → Sg → Prop} {x : String} (h : Q (.str x) σ) : SemE c n env (.Constant (.str (S x)) k pos) fr σ Q := fun A s R hR I F => wpAny_Constant_str (.val I (by simp [RelV]) h)
theorem sem_var {Q : V → Sg → Prop} {x : String} {v : V} (e : fr x = some v) (h : Q v σ) (hx : x ≠ "__debug__") (hy : x ≠ "__classdict__") : SemE c n env (.Name (S x) pos) fr σ Q := by
  intro A s R hR I F
  obtain ⟨o, m, h1, h2, h3⟩ := F.loc
  obtain ⟨rv, r, z⟩ := h3 x v e
  have q : PostE c σ R s Q rv s := .here I r h
  refine wpAny_Name ?_ (S_ne hx)
  rcases z with ⟨z1, z2⟩ | ⟨z1, a, o', z2, z3, z4⟩
  · exact wpAny_loadName_local F.kind z1 (h2.ns (I.raw _ _ h1)) z2 q
  · have ic : s.heap.IsCell a (some rv) := ⟨o', I.raw _ _ z3, z4⟩
    rcases z1 with z1 | z1
    · exact wpAny_loadName_cell F.kind z1 z2 ic q
    · exact wpAny_loadName_free F.kind z1 z2 ic q (S_ne hy)
/-! ### operators -/
theorem sem_bin {Q : V → Sg → Prop} {l r : Expr} {op : BO} (h : SemE c n env l fr σ fun va σ₁ => SemE c n env r fr σ₁ fun vb σ₂ => wBin op va vb fun v => Q v σ₂) : SemE c n env (.BinOp l op.op r pos) fr σ Q := by
  intro A s R hR I F
  refine wpAny_BinOp ((h A s R hR I F).then fun ra h₁ t₁ va σ₁ I₁ X₁ va_ h₁' => ?_)
  refine (h₁' A { s with heap := h₁, toks := t₁ } R hR I₁ (F.ext X₁)).then fun rb h₂ t₂ vb σ₂ I₂ X₂ vb_ h₂' => ?_
  exact SemV.trans (s := s) (t₁ := t₂) (X₁.trans X₂) (bin_ok (s := { s with heap := h₂, toks := t₂ }) I₂ (va_.ext X₂) vb_ h₂')
theorem sem_cmp {Q : V → Sg → Prop} {l r : Expr} {op : CO} (h : SemE c n env l fr σ fun va σ₁ => SemE c n env r fr σ₁ fun vb σ₂ => wCmp op va vb fun v => Q (.bool v) σ₂) : SemE c n env (.Compare l [op.op] [r] pos) fr σ Q := by
  intro A s R hR I F
  refine wpAny_Compare1 ((h A s R hR I F).then fun ra h₁ t₁ va σ₁ I₁ X₁ va_ h₁' => ?_) (by cases op <;> (unfold behindInMarks; split <;> simp [CO.op]))
  refine (h₁' A { s with heap := h₁, toks := t₁ } R hR I₁ (F.ext X₁)).then fun rb h₂ t₂ vb σ₂ I₂ X₂ vb_ h₂' => ?_
  exact SemV.trans (s := s) (t₁ := t₂) (X₁.trans X₂) (cmp_ok (s := { s with heap := h₂, toks := t₂ }) hR I₂ (va_.ext X₂) vb_ h₂')
theorem sem_cmpB {Q : Bool → Sg → Prop} {l r : Expr} {op : CO} (h : SemE c n env l fr σ fun va σ₁ => SemE c n env r fr σ₁ fun vb σ₂ => wCmp op va vb fun v => Q v σ₂) : SemB c n env (.Compare l [op.op] [r] pos) fr σ Q := by
  intro A s R hR I F
  refine wpAny_isTrue_Compare1 ((h A s R hR I F).then fun ra h₁ t₁ va σ₁ I₁ X₁ va_ h₁' => ?_) (by cases op <;> (unfold behindInMarks; split <;> simp [CO.op]))
  refine (h₁' A { s with heap := h₁, toks := t₁ } R hR I₁ (F.ext X₁)).then fun rb h₂ t₂ vb σ₂ I₂ X₂ vb_ h₂' => ?_
  refine (cmp_ok (s := { s with heap := h₂, toks := t₂ }) (Q := fun v σ' => ∃ b, v = .bool b ∧ Q b σ') hR I₂ (va_.ext X₂) vb_ (wCmp_mono h₂' fun b q => ⟨b, rfl, q⟩)).then fun rc h₃ t₃ v σ₃ I₃ X₃ v_ h₃' => ?_
  obtain ⟨b, rfl, q⟩ := h₃'
  simp only [RelV] at v_
  subst v_
  exact wpAny_truthy_bool ⟨h₃, t₃, σ₃, rfl, I₃, (X₁.trans X₂).trans X₃, q⟩
/-- the truth of a value -/
noncomputable def wTruth : V → (Bool → Prop) → Prop
  | .bool b, Q => Q b
  | .none, Q => Q false
  | _, _ => False
theorem truth_ok {A : Around} {s : Shared} {R : Rw} {v : V} {rv : Value} {Q : Bool → Sg → Prop} (I : Inv c s.heap σ R) (r : RelV c s.heap (own σ R) v rv) (h : wTruth v fun b => Q b σ) :
    wpAny (model c.prog c.w) A (truthy rv) (PostG c σ R s (PB Q)) (fun _ _ => False) s := by
  cases v <;> simp only [wTruth] at h
  · simp only [RelV] at r; subst r; exact fun _ _ _ => ⟨s.heap, s.toks, σ, rfl, I, Ext.refl _ _, h⟩
  · simp only [RelV] at r; subst r; exact wpAny_truthy_bool ⟨s.heap, s.toks, σ, rfl, I, Ext.refl _ _, h⟩
theorem semB_val {Q : Bool → Sg → Prop} {e : Expr} (h : SemE c n env e fr σ fun v σ₁ => wTruth v fun b => Q b σ₁)
    (he : isTrue e env (eval e env) = (do let v ← eval e env; standAt e.pos; holding [v] (truthy v))) : SemB c n env e fr σ Q := by
  intro A s R hR I F
  refine wpAny_isTrue_value ((h A s R hR I F).then fun rv h₁ t₁ v σ₁ I₁ X₁ v_ h₁' => ?_) he
  exact PostG.transW (s := s) (t₁ := t₁) X₁ (truth_ok (s := { s with heap := h₁, toks := t₁ }) I₁ v_ h₁')
theorem semB_not {Q : Bool → Sg → Prop} {x : Expr} (h : SemB c n env x fr σ fun b σ₁ => Q (!b) σ₁) : SemB c n env (.UnaryOp .Not x pos) fr σ Q := by
  intro A s R hR I F
  exact wpAny_isTrue_Not (PostG.then (β := Bool) (h A s R hR I F) fun b h₁ t₁ σ₁ I₁ X₁ q => ⟨h₁, t₁, σ₁, rfl, I₁, X₁, q⟩)
theorem sem_not {Q : V → Sg → Prop} {x : Expr} (h : SemE c n env x fr σ fun v σ₁ => wTruth v fun b => Q (.bool (!b)) σ₁) : SemE c n env (.UnaryOp .Not x pos) fr σ Q := by
  intro A s R hR I F
  refine wpAny_UnaryOp ((h A s R hR I F).then fun rv h₁ t₁ v σ₁ I₁ X₁ v_ h₁' => ?_)
  unfold unaryOp
  refine wpAny_holding ?_
  show wpAny _ _ (do return Value.bool (!(← truthy rv))) _ _ _
  refine wpAny_bind (PostG.then (β := Bool) (truth_ok (s := { s with heap := h₁, toks := t₁ }) (Q := fun b σ' => Q (.bool (!b)) σ') I₁ v_ h₁') fun b h₂ t₂ σ₂ I₂ X₂ q => ?_)
  exact wpAny_pure ⟨h₂, t₂, .bool (!b), σ₂, rfl, I₂, X₁.trans X₂, by simp [RelV], q⟩
theorem sem_neg {Q : V → Sg → Prop} {x : Expr} (h : SemE c n env x fr σ fun v σ₁ => match v with | .int i => Q (.int (-i)) σ₁ | _ => False) : SemE c n env (.UnaryOp .USub x pos) fr σ Q := by
  intro A s R hR I F
  refine wpAny_UnaryOp ((h A s R hR I F).then fun rv h₁ t₁ v σ₁ I₁ X₁ v_ h₁' => ?_)
  cases v <;> simp only at h₁'
  simp only [RelV] at v_; obtain ⟨t, rfl⟩ := v_
  exact neg_int ⟨h₁, t₁ + 1, _, σ₁, rfl, I₁, X₁, by simp [RelV], h₁'⟩
end
end PyW
namespace PyW
/-! ### more operators on expressions -/
section
variable {c : Cx} {n : Nat} {env : Env} {fr : Fm} {σ : Sg} {pos : Pos} {k : Nat}
/-- and, or as values -/
noncomputable def SemAnd (c : Cx) (n : Nat) (env : Env) (isAnd : Bool) : List Expr → Fm → Sg → (V → Sg → Prop) → Prop
  | [], _, _, _ => False
  | [e], fr, σ, Q => SemE c n env e fr σ Q
  | e :: e' :: es, fr, σ, Q => SemE c n env e fr σ fun v σ₁ => wTruth v fun b => if b = isAnd then SemAnd c n env isAnd (e' :: es) fr σ₁ Q else Q v σ₁
theorem wTruth_mono {v : V} {P P' : Bool → Prop} (h : wTruth v P) (k : ∀ b, P b → P' b) : wTruth v P' := by
  cases v <;> simp only [wTruth] at h ⊢ <;> exact k _ h
theorem sem_boolOp {isAnd : Bool} : ∀ {es : List Expr} {fr : Fm} {σ : Sg} {Q : V → Sg → Prop} (h : SemAnd c n env isAnd es fr σ Q) (A : Around) (s : Shared) (R : Rw), Room n A → Inv c s.heap σ R → FrOK c s.heap (own σ R) R env fr →
    SemV c A s σ R (boolOp pos (if isAnd then .And else .Or) (evalEach es env)) Q
  | [], _, _, _, h, _, _, _, _, _, _ => h.elim
  | [e], fr, σ, Q, h, A, s, R, hR, I, F => h A s R hR I F
  | e :: e' :: es, fr, σ, Q, h, A, s, R, hR, I, F => by
    unfold SemAnd at h
    show wpAny _ _ (do
      let v ← eval e env
      standAt pos
      let t ← holding [v] (truthy v)
      match (if isAnd then BoolOp.And else .Or), t with
      | .And, false | .Or, true => pure v
      | _, _ => boolOp pos (if isAnd then .And else .Or) (evalEach (e' :: es) env)) _ _ s
    refine wpAny_bind ((h A s R hR I F).then fun rv h₁ t₁ v σ₁ I₁ X₁ v_ q => wpAny_bind (wpAny_standAt (wpAny_bind (wpAny_holding ?_))))
    refine PostG.then (β := Bool) (truth_ok (s := { s with heap := h₁, toks := t₁ }) (Q := fun b σ' => σ' = σ₁ ∧ if b = isAnd then SemAnd c n env isAnd (e' :: es) fr σ₁ Q else Q v σ₁) I₁ v_ (wTruth_mono q fun _ z => ⟨rfl, z⟩)) fun b h₂ t₂ σ₂ I₂ X₂ q₂ => ?_
    obtain ⟨rfl, q₂⟩ := q₂
    by_cases hb : b = isAnd
    · rw [if_pos hb] at q₂
      subst hb
      have z := SemV.trans (s := s) (t₁ := t₂) (X₁.trans X₂) (sem_boolOp q₂ A { s with heap := h₂, toks := t₂ } R hR I₂ ((F.ext X₁).ext X₂))
      cases b <;> exact z
    · rw [if_neg hb] at q₂
      have z : PostE c σ R s Q rv { s with heap := h₂, toks := t₂ } := ⟨h₂, t₂, v, σ₂, rfl, I₂, X₁.trans X₂, v_.ext X₂, q₂⟩
      cases b <;> cases isAnd <;> first | exact absurd rfl hb | exact wpAny_pure z
theorem sem_and {es : List Expr} {Q : V → Sg → Prop} (h : SemAnd c n env true es fr σ Q) : SemE c n env (.BoolOp .And es pos) fr σ Q := fun A s R hR I F => by
  show wpAny _ _ (eval (.BoolOp .And es pos) env) _ _ s
  rw [arm_eval_BoolOp]
  exact sem_boolOp h A s R hR I F
theorem sem_or {es : List Expr} {Q : V → Sg → Prop} (h : SemAnd c n env false es fr σ Q) : SemE c n env (.BoolOp .Or es pos) fr σ Q := fun A s R hR I F => by
  show wpAny _ _ (eval (.BoolOp .Or es pos) env) _ _ s
  rw [arm_eval_BoolOp]
  exact sem_boolOp h A s R hR I F
/-- and, or as tests -/
noncomputable def SemAll (c : Cx) (n : Nat) (env : Env) (isAnd : Bool) : List Expr → Fm → Sg → (Bool → Sg → Prop) → Prop
  | [], _, σ, Q => Q isAnd σ
  | e :: es, fr, σ, Q => SemB c n env e fr σ fun b σ₁ => if b = isAnd then SemAll c n env isAnd es fr σ₁ Q else Q b σ₁
theorem sem_allTrue {isAnd : Bool} : ∀ {es : List Expr} {fr : Fm} {σ : Sg} {Q : Bool → Sg → Prop} (h : SemAll c n env isAnd es fr σ Q) (A : Around) (s : Shared) (R : Rw), Room n A → Inv c s.heap σ R → FrOK c s.heap (own σ R) R env fr →
    wpAny (model c.prog c.w) A (allTrue (if isAnd then .And else .Or) es env) (PostG c σ R s (PB Q)) (fun _ _ => False) s
  | [], fr, σ, Q, h, A, s, R, hR, I, F => by
    have z : PostG c σ R s (PB Q) isAnd s := ⟨s.heap, s.toks, σ, rfl, I, Ext.refl _ _, h⟩
    cases isAnd <;> exact wpAny_pure z
  | e :: es, fr, σ, Q, h, A, s, R, hR, I, F => by
    unfold SemAll at h
    show wpAny _ _ (do
      match (if isAnd then BoolOp.And else .Or), ← isTrue e env (eval e env) with
      | .And, false => pure false
      | .Or, true => pure true
      | _, _ => allTrue (if isAnd then .And else .Or) es env) _ _ s
    refine wpAny_bind (PostG.then (β := Bool) (h A s R hR I F) fun b h₂ t₂ σ₂ I₂ X₂ q₂ => ?_)
    dsimp only [PB] at q₂
    by_cases hb : b = isAnd
    · rw [if_pos hb] at q₂
      subst hb
      have z := PostG.transW (s := s) (t₁ := t₂) X₂ (sem_allTrue q₂ A { s with heap := h₂, toks := t₂ } R hR I₂ (F.ext X₂))
      cases b <;> exact z
    · rw [if_neg hb] at q₂
      have z : PostG c σ R s (PB Q) b { s with heap := h₂, toks := t₂ } := ⟨h₂, t₂, σ₂, rfl, I₂, X₂, q₂⟩
      cases b <;> cases isAnd <;> first | exact absurd rfl hb | exact wpAny_pure z
theorem semB_and {es : List Expr} {Q : Bool → Sg → Prop} (h : SemAll c n env true es fr σ Q) : SemB c n env (.BoolOp .And es pos) fr σ Q := fun A s R hR I F => wpAny_isTrue_BoolOp (sem_allTrue h A s R hR I F)
theorem semB_or {es : List Expr} {Q : Bool → Sg → Prop} (h : SemAll c n env false es fr σ Q) : SemB c n env (.BoolOp .Or es pos) fr σ Q := fun A s R hR I F => wpAny_isTrue_BoolOp (sem_allTrue h A s R hR I F)
theorem sem_ite {t a b : Expr} {Q : V → Sg → Prop} (h : SemB c n env t fr σ fun x σ₁ => if x = true then SemE c n env a fr σ₁ Q else SemE c n env b fr σ₁ Q) : SemE c n env (.IfExp t a b pos) fr σ Q := by
  intro A s R hR I F
  refine wpAny_IfExp (PostG.then (β := Value) (h A s R hR I F) fun x h₁ t₁ σ₁ I₁ X₁ q => ?_)
  dsimp only [PB] at q
  cases x
  · exact SemV.trans (s := s) (t₁ := t₁) X₁ (q A { s with heap := h₁, toks := t₁ } R hR I₁ (F.ext X₁))
  · exact SemV.trans (s := s) (t₁ := t₁) X₁ (q A { s with heap := h₁, toks := t₁ } R hR I₁ (F.ext X₁))
theorem semB_ite {t a b : Expr} {Q : Bool → Sg → Prop} (h : SemB c n env t fr σ fun x σ₁ => if x = true then SemB c n env a fr σ₁ Q else SemB c n env b fr σ₁ Q) : SemB c n env (.IfExp t a b pos) fr σ Q := by
  intro A s R hR I F
  show wpAny _ _ (do if ← isTrue t env (eval t env) then isTrue a env (eval a env) else isTrue b env (eval b env)) _ _ s
  refine wpAny_bind (PostG.then (β := Bool) (h A s R hR I F) fun x h₁ t₁ σ₁ I₁ X₁ q => ?_)
  dsimp only [PB] at q
  cases x
  · exact PostG.transW (s := s) (t₁ := t₁) X₁ (q A { s with heap := h₁, toks := t₁ } R hR I₁ (F.ext X₁))
  · exact PostG.transW (s := s) (t₁ := t₁) X₁ (q A { s with heap := h₁, toks := t₁ } R hR I₁ (F.ext X₁))
/-! ### lists of expressions -/
noncomputable def notStar (e : Expr) : Bool := !(Nat.beq e.ctorIdx 22)
theorem starEach_cons {e : Expr} {es : List Expr} (h : notStar e = true) : starEach (e :: es) env = (false, eval e env) :: starEach es env := by
  cases e <;> first | rfl | cases h
theorem semL_nil {Q : List V → Sg → Prop} (h : Q [] σ) : SemL c n env pos [] fr σ Q := fun A s R hR I F => wpAny_items_nil ⟨s.heap, s.toks, σ, rfl, I, Ext.refl _ _, [], .nil, h⟩
theorem semL_cons {e : Expr} {es : List Expr} {Q : List V → Sg → Prop} (he : notStar e = true) (h : SemE c n env e fr σ fun v σ₁ => SemL c n env pos es fr σ₁ fun vs σ₂ => Q (v :: vs) σ₂) : SemL c n env pos (e :: es) fr σ Q := by
  intro A s R hR I F
  refine wpAny_items_cons ((h A s R hR I F).then fun rv h₁ t₁ v σ₁ I₁ X₁ v_ q => ?_) (starEach_cons he)
  refine PostG.then (β := List Value) (q A { s with heap := h₁, toks := t₁ } R hR I₁ (F.ext X₁)) fun rs h₂ t₂ σ₂ I₂ X₂ q₂ => ?_
  obtain ⟨vs, r, q₂⟩ := q₂
  exact ⟨h₂, t₂, σ₂, rfl, I₂, X₁.trans X₂, v :: vs, .cons (v_.ext X₂) r, q₂⟩
theorem sem_tup {es : List Expr} {Q : V → Sg → Prop} (h : SemL c n env pos es fr σ fun vs σ₁ => vs.length ≤ sizeLine ∧ Q (.tup vs) σ₁) : SemE c n env (.Tuple es k pos) fr σ Q := by
  intro A s R hR I F
  refine Tuple_ (PostG.then (β := Value) (h A s R hR I F) fun rs h₁ t₁ σ₁ I₁ X₁ q => ?_)
  obtain ⟨vs, r, hz, q⟩ := q
  exact wpAny_newTuple (PostE.trans (t₁ := t₁) X₁ (.tup (s := { s with heap := h₁, toks := t₁ }) I₁ r (by rw [← r.length]; exact hz) q)) (by rw [← r.length]; exact hz)
theorem sem_lst {es : List Expr} {Q : V → Sg → Prop} (h : SemL c n env pos es fr σ fun vs σ₁ => vs.length ≤ sizeLine ∧ Q (.list vs) σ₁) : SemE c n env (.List es pos) fr σ Q := by
  intro A s R hR I F
  refine List_ (PostG.then (β := Value) (h A s R hR I F) fun rs h₁ t₁ σ₁ I₁ X₁ q => ?_)
  obtain ⟨vs, r, hz, q⟩ := q
  exact wpAny_newList (PostE.trans (t₁ := t₁) X₁ (.lst (s := { s with heap := h₁, toks := t₁ }) I₁ r (by rw [← r.length]; exact hz) q)) (by rw [← r.length]; exact hz)
theorem sem_lstO {es : List Expr} {Q : V → Sg → Prop} (h : SemL c n env pos es fr σ fun vs σ₁ => vs.length ≤ sizeLine ∧ ∀ a, σ₁ a = none → Q (.ref a) (upd σ₁ a (.list vs))) : SemE c n env (.List es pos) fr σ Q := by
  intro A s R hR I F
  refine List_ (PostG.then (β := Value) (h A s R hR I F) fun rs h₁ t₁ σ₁ I₁ X₁ q => ?_)
  obtain ⟨vs, r, hz, q⟩ := q
  exact wpAny_newList (PostE.trans (t₁ := t₁) X₁ (.lstO (s := { s with heap := h₁, toks := t₁ }) I₁ r (by rw [← r.length]; exact hz) q)) (by rw [← r.length]; exact hz)
/-! ### items -/
noncomputable def atIdx (l : List V) (i : Int) : Option V := if 0 ≤ i then l[i.toNat]? else if -(l.length : Int) ≤ i then l[(i + l.length).toNat]? else none
noncomputable def wItO (o : Option O) (i : Int) (Q : V → Prop) : Prop := match o with
  | none => False
  | some o => match o with
    | .list l => ∃ v, atIdx l i = some v ∧ Q v
    | .dict l => ∃ v, l.lookup i = some v ∧ Q v
    | .sdict _ => False
    | .ns _ => False
noncomputable def wIdxI (σ : Sg) (a : V) (i : Int) (Q : V → Prop) : Prop := match a with
  | .tup l => ∃ v, atIdx l i = some v ∧ Q v
  | .list l => ∃ v, atIdx l i = some v ∧ Q v
  | .dict l => ∃ v, l.lookup i = some v ∧ Q v
  | .ref a => wItO (σ a) i Q
  | _ => False
noncomputable def wIdx (σ : Sg) (a b : V) (Q : V → Prop) : Prop := onI b fun i => wIdxI σ a i Q
theorem wItO_of {o : Option O} {i : Int} {Q : V → Prop} (h : wItO o i Q) : (∃ l v, o = some (.list l) ∧ atIdx l i = some v ∧ Q v) ∨ ∃ l v, o = some (.dict l) ∧ l.lookup i = some v ∧ Q v := by
  cases o with
  | none => exact False.elim h
  | some o => cases o with
    | list l => obtain ⟨v, e, q⟩ := h; exact .inl ⟨l, v, rfl, e, q⟩
    | dict l => obtain ⟨v, e, q⟩ := h; exact .inr ⟨l, v, rfl, e, q⟩
    | _ => exact False.elim h
theorem wIdx_mono {a b : V} {Q Q' : V → Prop} (h : wIdx σ a b Q) (k : ∀ v, Q v → Q' v) : wIdx σ a b Q' := by
  obtain ⟨i, rfl, h⟩ := onI_of h
  cases a with
  | tup l => exact Exists.imp (fun _ z => ⟨z.1, k _ z.2⟩) h
  | list l => exact Exists.imp (fun _ z => ⟨z.1, k _ z.2⟩) h
  | dict l => exact Exists.imp (fun _ z => ⟨z.1, k _ z.2⟩) h
  | ref a =>
    show wItO (σ a) i Q'
    rcases wItO_of h with ⟨l, v, e, q⟩ | ⟨l, v, e, q⟩ <;> rw [e] <;> exact ⟨v, q.1, k _ q.2⟩
  | _ => exact False.elim h
theorem atIdx_some {l : List V} {i : Int} {v : V} (h : atIdx l i = some v) : (0 ≤ i ∧ l[i.toNat]? = some v ∧ i < l.length) ∨ (i < 0 ∧ -(l.length : Int) ≤ i ∧ l[(i + l.length).toNat]? = some v) := by
  unfold atIdx at h
  split at h
  · rename_i h0
    have := (List.getElem?_eq_some_iff.mp h).1
    exact .inl ⟨h0, h, by omega⟩
  · split at h
    · exact .inr ⟨by omega, by assumption, h⟩
    · cases h
theorem sizeLine_lt : (sizeLine : Int) < 2 ^ 60 := by rw [sizeLine_eq]; decide
theorem dictOf_rel {h : Heap} {ow : Addr → Prop} : ∀ {l : List (Int × V)} {es : List DictEntry}, RelD c h ow l es → ∃ kvs : List (Int × Value), Pairs (intKind c.prog c.w) es kvs ∧ kvs.map (·.1) = l.map (·.1) ∧ (∀ e ∈ es, ∃ k, Value.isInt k e.key = true ∧ e.hash = hashInt k) ∧
    ∀ k v, l.lookup k = some v → ∃ r, valueAt kvs k = some r ∧ RelV c h ow v r
  | [], [], _ => ⟨[], .nil, rfl, fun _ h => (nomatch h), fun _ _ h => by simp at h⟩
  | (k, v) :: l, e :: es, r => by
    simp only [RelD] at r
    obtain ⟨⟨t, h1, h2⟩, h3, h4⟩ := r
    obtain ⟨kvs, p1, p2, p3, p4⟩ := dictOf_rel h4
    have hk : Value.isInt k e.key = true := by rw [h1]; simp [Value.isInt]
    refine ⟨(k, e.val) :: kvs, .cons hk rfl p1, by simp [p2], ?_, ?_⟩
    · intro e' he'
      rcases List.mem_cons.mp he' with rfl | he'
      · exact ⟨k, hk, h2⟩
      · exact p3 _ he'
    · intro k' v' hl
      by_cases e1 : k' = k
      · subst e1
        simp only [List.lookup_cons, beq_self_eq_true, Option.some.injEq] at hl
        subst hl
        exact ⟨e.val, by simp [valueAt], h3⟩
      · have e2 : (k' == k) = false := by simpa using e1
        simp only [List.lookup_cons, e2] at hl
        obtain ⟨r', z1, z2⟩ := p4 k' v' hl
        have e3 : ¬ k = k' := fun q => e1 q.symm
        refine ⟨r', ?_, z2⟩
        simp only [valueAt, List.find?_cons, e3, decide_false] at z1 ⊢
        exact z1
  | [], _ :: _, e => by simp [RelD] at e
  | _ :: _, [], e => by simp [RelD] at e
theorem dictOf_of {h : Heap} {ow : Addr → Prop} {a : Addr} {l : List (Int × V)} {es : Array DictEntry} {m : Nat} (hg : h.get? a = some { cls := .type "dict", data := .dict es m }) (hn : (l.map (·.1)).Nodup) (r : RelD c h ow l es.toList) :
    ∃ kvs : List (Int × Value), h.DictOf (intKind c.prog c.w) a kvs ∧ kvs.map (·.1) = l.map (·.1) ∧ ∀ k v, l.lookup k = some v → ∃ r, valueAt kvs k = some r ∧ RelV c h ow v r := by
  obtain ⟨kvs, p1, p2, p3, p4⟩ := dictOf_rel r
  exact ⟨kvs, ⟨_, es, m, hg, ⟨rfl, rfl, rfl⟩, rfl, fun e he => p3 e (Array.mem_toList_iff.mpr he), p1, by rw [p2]; exact hn⟩, p2, p4⟩
end
end PyW
namespace PyW
section
variable {c : Cx} {n : Nat} {env : Env} {fr : Fm} {σ : Sg} {pos : Pos} {k : Nat}
noncomputable def notSlice (e : Expr) : Bool := !(Nat.beq e.ctorIdx 26)
theorem subscripted_plain {slice : Expr} (h : notSlice slice = true) (o i : Value) : subscripted slice false o i = operate [o, i] (getItem o i) := by
  cases slice <;> first | rfl | cases h
theorem list_item {A : Around} {s : Shared} {R : Rw} {Q : V → Sg → Prop} {a : Addr} {arr : Array Value} {m : Nat} {l : List V} {i : Int} {t : Tok} {v : V} (I : Inv c s.heap σ R) (hg : s.heap.get? a = some { cls := .type "list", data := .seq arr m }) (hz : arr.size ≤ sizeLine + 1)
    (r : RelVs c s.heap (own σ R) l arr.toList) (e : atIdx l i = some v) (q : Q v σ) : SemV c A s σ R (getItem (.ref a) (.int i t)) Q := by
  have len := r.length
  simp only [Array.length_toList] at len
  have big := sizeLine_lt
  have hl : s.heap.IsList a arr := ⟨_, hg, rfl, m, rfl⟩
  rcases atIdx_some e with ⟨h1, h2, h3⟩ | ⟨h1, h2, h3⟩
  · obtain ⟨rv, e1, e2⟩ := r.get h2
    exact wpAny_getItem_list hl h1 (by omega) (by simpa using e1) (.here I e2 q)
  · obtain ⟨rv, e1, e2⟩ := r.get h3
    refine wpAny_getItem_list_neg hl h1 (by omega) (by omega) ?_ (.here I e2 q)
    rw [len] at e1; simpa using e1
theorem idx_ok {A : Around} {s : Shared} {R : Rw} {Q : V → Sg → Prop} {a b : V} {ra rb : Value} {value slice : Expr} (hs : notSlice slice = true) (I : Inv c s.heap σ R) (ha : RelV c s.heap (own σ R) a ra) (hb : RelV c s.heap (own σ R) b rb)
    (h : wIdx σ a b fun v => Q v σ) : SemV c A s σ R (subscriptTail value slice ra rb) Q := by
  obtain ⟨i, rfl, h⟩ := onI_of h
  cases a with
  | tup l =>
    obtain ⟨x, xs, n1, rfl, h1, h2, h3, h4⟩ := ha
    obtain ⟨t, rfl⟩ := hb
    obtain ⟨v, e, q⟩ := h
    have len := h4.length
    simp only [Array.length_toList] at len
    have big := sizeLine_lt
    have ht : IsTup s.heap x xs := ⟨_, h1, rfl, n1, rfl⟩
    refine tail_any ht.typeIs slot_tuple_getitem.lookup ?_ (subscripted_plain hs _ _)
    rcases atIdx_some e with ⟨z1, z2, z3⟩ | ⟨z1, z2, z3⟩
    · obtain ⟨rv, e1, e2⟩ := h4.get z2
      exact PyProof.Rows.getItem_tuple ht (by omega) (by omega) (seqIndex_of z1 (by omega)) (by simpa using e1) (.here I e2 q)
    · obtain ⟨rv, e1, e2⟩ := h4.get z3
      refine PyProof.Rows.getItem_tuple ht (by omega) (by omega) (seqIndex_neg z1 (by omega)) ?_ (.here I e2 q)
      rw [len] at e1; simpa using e1
  | list l =>
    obtain ⟨x, xs, n1, rfl, h1, h2, h3, h4⟩ := ha
    obtain ⟨t, rfl⟩ := hb
    obtain ⟨v, e, q⟩ := h
    have hl : s.heap.IsList x xs := ⟨_, h1, rfl, n1, rfl⟩
    exact tail_any hl.typeIs slot_list_getitem.lookup (list_item I h1 (by omega) h4 e q) (subscripted_plain hs _ _)
  | dict l =>
    obtain ⟨x, es, n1, rfl, h1, h2, h6, h3, h4, h5⟩ := ha
    obtain ⟨t, rfl⟩ := hb
    obtain ⟨v, e, q⟩ := h
    obtain ⟨kvs, d1, d2, d3⟩ := dictOf_of h1 h4 h5
    obtain ⟨r, z1, z2⟩ := d3 _ _ e
    exact tail_any d1.typeIs slot_dict_getitem.lookup (wpAny_getItem_of (by simp [intKind, Value.isInt]) d1.mapOf z1 (.val I z2 q)) (subscripted_plain hs _ _)
  | ref x =>
    have ha : ra = .ref x := ha
    subst ha
    obtain ⟨t, rfl⟩ := hb
    rcases wItO_of h with ⟨l, v, e0, e, q⟩ | ⟨l, v, e0, e, q⟩
    · obtain ⟨ob, g1, arr, m, rfl, g0, g2⟩ := I.objs _ _ e0
      have hl : s.heap.IsList x arr := ⟨_, g1, rfl, m, rfl⟩
      exact tail_any hl.typeIs slot_list_getitem.lookup (list_item I g1 (by omega) g2 e q) (subscripted_plain hs _ _)
    · obtain ⟨ob, g1, es, m, rfl, g0, g2, g3⟩ := I.objs _ _ e0
      obtain ⟨kvs, d1, d2, d3⟩ := dictOf_of g1 g2 g3
      obtain ⟨r, z1, z2⟩ := d3 _ _ e
      exact tail_any d1.typeIs slot_dict_getitem.lookup (wpAny_getItem_of (by simp [intKind, Value.isInt]) d1.mapOf z1 (.val I z2 q)) (subscripted_plain hs _ _)
  | _ => exact False.elim h
end
end PyW
namespace PyW
section
variable {c : Cx} {h h' : Heap} {σ : Sg} {R : Rw}
/-- raw objects that a step turns, several at once -/
noncomputable def rawOf (wr : List Addr) (h : Heap) (R : Rw) : Rw := fun a => if a ∈ wr then h.get? a else R a
theorem rawOf_off {wr : List Addr} {h : Heap} {R : Rw} {a : Addr} (n : a ∉ wr) : rawOf wr h R a = R a := by simp [rawOf, n]
theorem Inv.rawSets (I : Inv c h σ R) (wr : List Addr) (hw : ∀ a ∈ wr, R a ≠ none) (k : ∀ b o, b ∉ wr → h.get? b = some o → h'.get? b = some o) (ho : ∀ a ∈ wr, ∃ o, h'.get? a = some o) :
    Inv c h' σ (rawOf wr h' R) ∧ own σ (rawOf wr h' R) = own σ R ∧ Ext h (own σ R) h' (own σ (rawOf wr h' R)) := by
  have e : own σ (rawOf wr h' R) = own σ R := by
    funext a
    unfold own rawOf
    by_cases ha : a ∈ wr
    · obtain ⟨o, q⟩ := ho a ha
      simp only [ha, if_true, q, eq_iff_iff]
      exact ⟨fun _ => .inr (hw a ha), fun _ => .inr (fun z => nomatch z)⟩
    · simp [ha]
  have owr : ∀ a ∈ wr, own σ R a := fun a ha => .inr (hw a ha)
  have X : Ext h (own σ R) h' (own σ (rawOf wr h' R)) := by
    rw [e]; exact ⟨fun a o q n => k a o (fun z => n (owr a z)) q, fun _ _ _ n => n⟩
  refine ⟨⟨fun b o q => k b o (fun z => I.baseFree b o q (owr b z)) (I.base b o q), fun b o q => by rw [e]; exact I.baseFree b o q, fun a o q => ?_, fun a o q => ?_, fun a o q => ?_, I.lo, I.top⟩, e, X⟩
  · obtain ⟨ob, z, r⟩ := I.objs a o q
    exact ⟨ob, k a ob (fun w => hw a w (I.disj a o q)) z, r.ext X⟩
  · unfold rawOf at q
    split at q
    · exact q
    · rename_i n; exact k a o n (I.raw a o q)
  · have n : a ∉ wr := fun w => hw a w (I.disj a o q)
    rw [rawOf_off n]; exact I.disj a o q
theorem Inv.rawNews (I : Inv c h σ R) (wr : List Addr) (hw : ∀ a ∈ wr, h.get? a = none) (k : ∀ b o, h.get? b = some o → h'.get? b = some o) (ho : ∀ a ∈ wr, ∃ o, h'.get? a = some o) :
    Inv c h' σ (rawOf wr h' R) ∧ Ext h (own σ R) h' (own σ (rawOf wr h' R)) ∧ (∀ a ∈ wr, rawOf wr h' R a ≠ none) ∧ (∀ a o, R a = some o → rawOf wr h' R a = some o) := by
  have nR : ∀ a o, R a = some o → a ∉ wr := fun a o q z => by have := I.raw a o q; rw [hw a z] at this; cases this
  have sub : ∀ a o, R a = some o → rawOf wr h' R a = some o := fun a o q => by rw [rawOf_off (nR a o q)]; exact q
  have e : ∀ a, own σ (rawOf wr h' R) a → own σ R a ∨ a ∈ wr := fun a q => by
    by_cases z : a ∈ wr
    · exact .inr z
    · unfold own at q; rw [rawOf_off z] at q; exact .inl q
  have X : Ext h (own σ R) h' (own σ (rawOf wr h' R)) := ⟨fun a o q _ => k a o q, fun a o q n w => by
    rcases e a w with w | w
    · exact n w
    · rw [hw a w] at q; cases q⟩
  refine ⟨⟨fun b o q => k b o (I.base b o q), fun b o q w => ?_, fun a o q => ?_, fun a o q => ?_, fun a o q => ?_, I.lo, I.top⟩, X, fun a ha => ?_, sub⟩
  · rcases e b w with w | w
    · exact I.baseFree b o q w
    · have := I.base b o q; rw [hw b w] at this; cases this
  · obtain ⟨ob, z, r⟩ := I.objs a o q; exact ⟨ob, k a ob z, r.ext X⟩
  · unfold rawOf at q
    split at q
    · exact q
    · exact k a o (I.raw a o q)
  · have n : a ∉ wr := fun w => by obtain ⟨ob, z, _⟩ := I.objs a o q; rw [hw a w] at z; cases z
    rw [rawOf_off n]; exact I.disj a o q
  · obtain ⟨o, q⟩ := ho a ha
    simp [rawOf, ha, q]
end
noncomputable def rawOff (wr : List Addr) (R : Rw) : Rw := fun a => if a ∈ wr then none else R a
theorem rawOff_off {wr : List Addr} {R : Rw} {a : Addr} (n : a ∉ wr) : rawOff wr R a = R a := by simp [rawOff, n]
theorem Inv.rawDrop {c : Cx} {h h' : Heap} {σ : Sg} {R : Rw} (I : Inv c h σ R) (wr : List Addr) (hw : ∀ a ∈ wr, R a ≠ none) (k : ∀ b o, b ∉ wr → h.get? b = some o → h'.get? b = some o) :
    Inv c h' σ (rawOff wr R) ∧ Ext h (own σ R) h' (own σ (rawOff wr R)) := by
  have owr : ∀ a ∈ wr, own σ R a := fun a ha => .inr (hw a ha)
  have sub : ∀ a, own σ (rawOff wr R) a → own σ R a := fun a q => q.imp id fun q => by
    unfold rawOff at q
    split at q
    · exact absurd rfl q
    · exact q
  have X : Ext h (own σ R) h' (own σ (rawOff wr R)) := ⟨fun a o q n => k a o (fun z => n (owr a z)) q, fun a o q n w => n (sub a w)⟩
  refine ⟨⟨fun b o q => k b o (fun z => I.baseFree b o q (owr b z)) (I.base b o q), fun b o q w => I.baseFree b o q (sub b w), fun a o q => ?_, fun a o q => ?_, fun a o q => ?_, I.lo, I.top⟩, X⟩
  · obtain ⟨ob, z, r⟩ := I.objs a o q
    exact ⟨ob, k a ob (fun w => hw a w (I.disj a o q)) z, r.ext X⟩
  · unfold rawOff at q
    split at q
    · cases q
    · rename_i n; exact k a o n (I.raw a o q)
  · unfold rawOff; split
    · rfl
    · exact I.disj a o q
noncomputable def isTupT (e : Expr) : Bool := Nat.beq e.ctorIdx 25
/-- a walk over an iterator that gives the items xs -/
structure Stp (c : Cx) (A : Around) (z : Bool) (it : Value) (wr : List Addr) (xs : List V) (St : Nat → Heap → (Addr → Prop) → Prop) : Prop where
  frame : ∀ i h ow h' ow', St i h ow → Ext h ow h' ow' → (∀ a ∈ wr, ∀ o, h.get? a = some o → h'.get? a = some o) → St i h' ow'
  self : ∀ i s (ow : Addr → Prop) (Q : Value → Shared → Prop) E, St i s.heap ow → Q it s → wpAny (model c.prog c.w) A (pyIter it) Q E s
  item : ∀ i s σ R v (target : Expr) (K : Value → Shared → Prop), (z = true → isTupT target = true) → xs[i]? = some v → Inv c s.heap σ R → (∀ a ∈ wr, R a ≠ none) → St i s.heap (own σ R) →
    (∀ rv h' tk R', (∀ a, a ∉ wr → R' a = R a) → (∀ a ∈ wr, R' a ≠ none) → Inv c h' σ R' → Ext s.heap (own σ R) h' (own σ R') → St (i + 1) h' (own σ R') → RelV c h' (own σ R') v rv → K rv { s with heap := h', toks := tk }) →
    wpAny (model c.prog c.w) A (pyNext it) (fun r s₁ => match r with
      | none => False
      | some rv => wpAny (model c.prog c.w) A (letOwnedTupleGo target it rv) (fun _ s₂ => K rv s₂) (fun _ _ => False) s₁) (fun _ _ => False) s
  done : ∀ s σ R (K : Shared → Prop), Inv c s.heap σ R → (∀ a ∈ wr, R a ≠ none) → St xs.length s.heap (own σ R) →
    (∀ h' tk, Inv c h' σ (rawOff wr R) → Ext s.heap (own σ R) h' (own σ (rawOff wr R)) → K { s with heap := h', toks := tk }) →
    wpAny (model c.prog c.w) A (pyNext it) (fun r s₁ => r = none ∧ K s₁) (fun _ _ => False) s
/-- out of the library's walks with one iterator -/
theorem Stp.ofWalks {c : Cx} {A : Around} {I : Addr} {fp : List Addr} {xs : List V} {P : Nat → Value → Prop} {S₀ : Nat → Heap → Prop} {cls : String} {G : Heap → (Addr → Prop) → Prop}
    (W : Walks c.prog c.w A I fp [I] xs.length P S₀)
    (hfp : ∀ b ∈ fp, b = I ∨ ∀ i h ow, S₀ i h → G h ow → ¬ ow b)
    (hI : ∀ i h, S₀ i h → ∃ o vs, h.get? I = some o ∧ o.cls = .type cls ∧ o.data = .fields vs)
    (hcls : (["enumerate", "zip", "dict_itemiterator", "dict_reverseitemiterator", "odict_iterator", "itertools.zip_longest", "itertools.pairwise"] : List String).contains cls = false)
    (hG : ∀ h ow h' ow', G h ow → Ext h ow h' ow' → G h' ow')
    (hP : ∀ i h ow v rv, G h ow → xs[i]? = some v → P i rv → RelV c h ow v rv) :
    Stp c A false (.ref I) [I] xs (fun i h ow => S₀ i h ∧ G h ow) where
  frame := fun i h ow h' ow' ⟨s0, g⟩ X k => ⟨W.frame i h h' s0 fun b hb o e => by
    rcases hfp b hb with rfl | q
    · exact k _ (by simp) o e
    · exact X.keep b o e (q i h ow s0 g), hG _ _ _ _ g X⟩
  self := fun i s ow Q E st q => W.self i s Q E st.1 q
  item := fun i s σ R v target K _ hv I₀ hw st k => by
    have hlt : i < xs.length := (List.getElem?_eq_some_iff.mp hv).1
    refine W.item i s _ _ hlt st.1 fun rv h' tk hp s1 keep => ?_
    obtain ⟨oI, vs, eI, e1, e2⟩ := hI _ _ s1
    obtain ⟨I₁, eo, X⟩ := I₀.rawSets [I] hw (fun b o n e => keep b o n e) (fun a ha => by rw [List.mem_singleton.mp ha]; exact ⟨_, eI⟩)
    have g' := hG _ _ _ _ st.2 X
    have hw' : ∀ a ∈ [I], rawOf [I] h' R a ≠ none := fun a ha => by
      rw [List.mem_singleton.mp ha]
      simp [rawOf, eI]
    have fin := k rv h' tk _ (fun a n => rawOf_off n) hw' I₁ X ⟨s1, g'⟩ (hP _ _ _ _ _ g' hv hp)
    have T : ∀ x y z, wpAny (model c.prog c.w) A (letOwnedTupleGo (.Tuple x y z) (.ref I) rv) (fun _ s₂ => K rv s₂) (fun _ _ => False) { s with heap := h', toks := tk } := fun x y z => by
      cases rv with
      | ref a =>
        refine wpAny_bind (wpAny_load eI ?_)
        rw [e1, e2]
        exact wpAny_ite_false (by rw [hcls]; rfl) (wpAny_pure fin)
      | _ => exact wpAny_pure fin
    cases target with
    | Tuple x y z => exact T x y z
    | List x z => exact T x 0 z
    | _ => exact wpAny_pure fin
  done := fun s σ R K I₀ hw st k => by
    refine W.done s _ _ st.1 fun h' tk keep => ⟨rfl, ?_⟩
    obtain ⟨I₁, X⟩ := I₀.rawDrop [I] hw (fun b o n e => keep b o n e)
    exact k h' tk I₁ X
section
variable {c : Cx} {A : Around} {s : Shared} {σ : Sg} {R : Rw}
theorem Stp.list (hh : A.handled = none) {I a : Addr} {arr : Array Value} {m : Nat} {l : List V} (hne : a ≠ I) (hlen : l.length = arr.size) :
    Stp c A false (.ref I) [I] l (fun i h ow => (h.IsListIter I a i ∧ h.IsList a arr) ∧ (¬ ow a ∧ (∃ o, h.get? a = some o) ∧ RelVs c h ow l arr.toList)) := by
  have W := Walks.list (prog := c.prog) (w := c.w) hh I a hne arr
  rw [← hlen] at W
  refine Stp.ofWalks (cls := "list_iterator") (G := fun h ow => ¬ ow a ∧ (∃ o, h.get? a = some o) ∧ RelVs c h ow l arr.toList) W (fun b hb => ?_) (fun i h s0 => ?_) (by decide) (fun h ow h' ow' g X => ?_) (fun i h ow v rv g hv hp => ?_)
  · rcases List.mem_cons.mp hb with rfl | hb
    · exact .inl rfl
    · rw [List.mem_singleton.mp hb]; exact .inr fun _ _ _ _ g => g.1
  · obtain ⟨o, h1, h2, h3⟩ := s0.1; exact ⟨o, _, h1, h2, h3⟩
  · obtain ⟨n, ⟨o, e⟩, r⟩ := g; exact ⟨X.free _ _ e n, ⟨o, X.keep _ _ e n⟩, r.ext X⟩
  · obtain ⟨v', h1, h2⟩ := g.2.2.get' (i := i) (r := rv) (by simpa using hp)
    rw [hv] at h1; cases h1; exact h2
theorem Stp.tup (hh : A.handled = none) {I a : Addr} {arr : Array Value} {m : Nat} {l : List V} (hne : a ≠ I) (hlen : l.length = arr.size) :
    Stp c A false (.ref I) [I] l (fun i h ow => (h.IsTupleIter I a i ∧ h.IsTuple a arr) ∧ (¬ ow a ∧ (∃ o, h.get? a = some o) ∧ RelVs c h ow l arr.toList)) := by
  have W := Walks.tuple (prog := c.prog) (w := c.w) hh I a hne arr
  rw [← hlen] at W
  refine Stp.ofWalks (cls := "tuple_iterator") (G := fun h ow => ¬ ow a ∧ (∃ o, h.get? a = some o) ∧ RelVs c h ow l arr.toList) W (fun b hb => ?_) (fun i h s0 => ?_) (by decide) (fun h ow h' ow' g X => ?_) (fun i h ow v rv g hv hp => ?_)
  · rcases List.mem_cons.mp hb with rfl | hb
    · exact .inl rfl
    · rw [List.mem_singleton.mp hb]; exact .inr fun _ _ _ _ g => g.1
  · obtain ⟨o, h1, h2, h3⟩ := s0.1; exact ⟨o, _, h1, h2, h3⟩
  · obtain ⟨n, ⟨o, e⟩, r⟩ := g; exact ⟨X.free _ _ e n, ⟨o, X.keep _ _ e n⟩, r.ext X⟩
  · obtain ⟨v', h1, h2⟩ := g.2.2.get' (i := i) (r := rv) (by simpa using hp)
    rw [hv] at h1; cases h1; exact h2
noncomputable def rngV (a b : Int) : List V := (List.range (b - a).toNat).map fun (i : Nat) => V.int (a + (i : Int))
theorem rngV_length (a b : Int) : (rngV a b).length = (b - a).toNat := by simp [rngV]
theorem Stp.rng (hh : A.handled = none) {I : Addr} {a b : Int} :
    Stp c A false (.ref I) [I] (rngV a b) (fun i h _ => IsRangeIter h I (a + (i : Nat) * 1) (((b - a).toNat : Int) - (i : Nat)) 1 ∧ True) := by
  have W := Walks.range (prog := c.prog) (w := c.w) hh I a 1 (b - a).toNat
  have hl : (rngV a b).length = (b - a).toNat := by simp [rngV]
  rw [← hl] at W
  rw [← hl]
  refine Stp.ofWalks (cls := "range_iterator") (G := fun _ _ => True) W (fun b hb => ?_) (fun i h s0 => ?_) (by decide) (fun _ _ _ _ _ _ => trivial) (fun i h ow v rv _ hv hp => ?_)
  · rw [List.mem_singleton.mp hb]; exact .inl rfl
  · exact ⟨_, _, s0, rfl, rfl⟩
  · obtain ⟨t, rfl⟩ := hp
    have hi := (List.getElem?_eq_some_iff.mp hv).1
    rw [hl] at hi
    simp only [rngV, List.getElem?_map] at hv
    rw [List.getElem?_range hi] at hv
    simp only [Option.map_some, Option.some.injEq] at hv
    subst hv
    simp only [RelV]
    exact ⟨t, by simp⟩
/-- what a loop starts with: the iterator, its walk -/
noncomputable def ItPost (c : Cx) (A : Around) (tt : Bool) (σ : Sg) (R : Rw) (s : Shared) (Q : List V → Sg → Prop) (it : Value) (s' : Shared) : Prop :=
  ∃ h' tk σ' z wr xs St, s' = { s with heap := h', toks := tk } ∧ (z = true → tt = true) ∧ Stp c A z it wr xs St ∧ (∀ a ∈ wr, R a = none) ∧ xs.length ≤ sizeLine ∧
    Inv c h' σ' (rawOf wr h' R) ∧ Ext s.heap (own σ R) h' (own σ' (rawOf wr h' R)) ∧ (∀ a ∈ wr, rawOf wr h' R a ≠ none) ∧ St 0 h' (own σ' (rawOf wr h' R)) ∧ Q xs σ'
/-- what may be gone over -/
noncomputable def itemsOf (σ : Sg) : V → Option (List V)
  | .list l => some l
  | .tup l => some l
  | .rng a b => if ((-(2 ^ 60) ≤ a ∧ a ≤ 2 ^ 60) ∧ -(2 ^ 60) ≤ b ∧ b ≤ 2 ^ 60) ∧ b - a ≤ 2 ^ 20 then some (rngV a b) else none
  | _ => none
theorem raw_none (I : Inv c s.heap σ R) : R s.heap.objs.size = none := by
  cases e : R s.heap.objs.size with
  | none => rfl
  | some o => have := I.raw _ _ e; rw [get_size] at this; cases this
theorem iter_ok {tt : Bool} {Q : List V → Sg → Prop} {v : V} {rv : Value} {xs : List V} (hh : A.handled = none) (I : Inv c s.heap σ R) (r : RelV c s.heap (own σ R) v rv) (e : itemsOf σ v = some xs) (q : Q xs σ) :
    wpAny (model c.prog c.w) A (pyIter rv) (ItPost c A tt σ R s Q) (fun _ _ => False) s := by
  have new : ∀ (o : Obj), o.isFreed = false → Inv c (s.heap.push o) σ (rawOf [s.heap.objs.size] (s.heap.push o) R) ∧ Ext s.heap (own σ R) (s.heap.push o) (own σ (rawOf [s.heap.objs.size] (s.heap.push o) R)) ∧
      (∀ a ∈ [s.heap.objs.size], rawOf [s.heap.objs.size] (s.heap.push o) R a ≠ none) := fun o ho => by
    obtain ⟨a, b, d, _⟩ := I.rawNews [s.heap.objs.size] (fun a ha => by rw [List.mem_singleton.mp ha]; exact get_size _) (fun b o' e => Heap.get?_push_of_some o e)
      (fun a ha => by rw [List.mem_singleton.mp ha]; exact ⟨_, Heap.get?_push_size _ ho⟩)
    exact ⟨a, b, d⟩
  cases v with
  | list l =>
    simp only [itemsOf, Option.some.injEq] at e; subst e
    simp only [RelV] at r
    obtain ⟨a, arr, m, rfl, h1, h2, h3, h4⟩ := r
    have hl := h4.length
    simp only [Array.length_toList] at hl
    have hne : a ≠ s.heap.objs.size := Nat.ne_of_lt (Heap.lt_size h1)
    obtain ⟨i1, i2, i3⟩ := new { cls := .type "list_iterator", data := .fields #[.ref a, .int 0 0] } rfl
    refine wpAny_pyIter_list ⟨_, h1, rfl, m, rfl⟩ ⟨_, s.toks, σ, false, [s.heap.objs.size], l, _, rfl, (fun q => nomatch q), Stp.list hh hne hl (m := m), fun a ha => by rw [List.mem_singleton.mp ha]; exact raw_none I, by omega, i1, i2, i3, ?_, q⟩
    exact ⟨⟨⟨_, Heap.get?_push_size _ rfl, rfl, rfl⟩, ⟨_, Heap.get?_push_of_some _ h1, rfl, m, rfl⟩⟩, i2.free _ _ h1 h2, ⟨_, i2.keep _ _ h1 h2⟩, h4.ext i2⟩
  | tup l =>
    simp only [itemsOf, Option.some.injEq] at e; subst e
    simp only [RelV] at r
    obtain ⟨a, arr, m, rfl, h1, h2, h3, h4⟩ := r
    have hl := h4.length
    simp only [Array.length_toList] at hl
    have hne : a ≠ s.heap.objs.size := Nat.ne_of_lt (Heap.lt_size h1)
    obtain ⟨i1, i2, i3⟩ := new { cls := .type "tuple_iterator", data := .fields #[.ref a, .int 0 0] } rfl
    refine wpAny_pyIter_tuple ⟨_, h1, rfl, m, rfl⟩ ⟨_, s.toks, σ, false, [s.heap.objs.size], l, _, rfl, (fun q => nomatch q), Stp.tup hh hne hl (m := m), fun a ha => by rw [List.mem_singleton.mp ha]; exact raw_none I, by omega, i1, i2, i3, ?_, q⟩
    exact ⟨⟨⟨_, Heap.get?_push_size _ rfl, rfl, rfl⟩, ⟨_, Heap.get?_push_of_some _ h1, rfl, m, rfl⟩⟩, i2.free _ _ h1 h2, ⟨_, i2.keep _ _ h1 h2⟩, h4.ext i2⟩
  | rng x y =>
    simp only [itemsOf] at e
    split at e
    · rename_i hb
      cases e
      simp only [RelV] at r
      obtain ⟨a, t, u, w, rfl, h1, h2⟩ := r
      have hs : (Builtin.Range.rangeSize x y 1) = ((y - x).toNat : Int) := by
        unfold Builtin.Range.rangeSize
        simp only [show (1 : Int) > 0 from by decide, if_true, Int.ediv_one]
        split <;> omega
      obtain ⟨i1, i2, i3⟩ := new { cls := .type "range_iterator", data := .fields #[rawInt x, rawInt (Builtin.Range.rangeSize x y 1), rawInt 1] } rfl
      refine wpAny_pyIter_range h1 ?_ ⟨_, s.toks, σ, false, [s.heap.objs.size], rngV x y, _, rfl, (fun q => nomatch q), Stp.rng hh, fun a ha => by rw [List.mem_singleton.mp ha]; exact raw_none I, ?_, i1, i2, i3, ⟨?_, trivial⟩, q⟩
      · unfold Builtin.Range.small
        rw [hs]
        simp only [Builtin.Range.rangeFitsLong, Bool.and_eq_true, decide_eq_true_eq, Bool.or_eq_true, show (1 : Int) > 0 from by decide, if_true]
        refine ⟨⟨⟨⟨?_, ?_⟩, ?_⟩, ?_⟩, .inr ?_⟩ <;> omega
      · have : (rngV x y).length = (y - x).toNat := by simp [rngV]
        rw [this, sizeLine_eq]; omega
      · have z := Heap.get?_push_size s.heap (o := { cls := .type "range_iterator", data := .fields #[rawInt x, rawInt (Builtin.Range.rangeSize x y 1), rawInt 1] }) rfl
        rw [hs] at z ⊢
        simpa [IsRangeIter, rawInt] using z
    · cases e
  | _ => simp [itemsOf] at e
end
end PyW
namespace PyW
/-- the addresses that a frame's own statements turn -/
noncomputable def frAddr (env : Env) (a : Addr) : Prop := a = env.locals ∨ ∃ X, env.cells.lookup X = some a
structure Fr2 (env : Env) (R R' : Rw) : Prop where
  off : ∀ a, ¬ frAddr env a → R' a = R a
  dom : ∀ a, R' a = none ↔ R a = none
theorem Fr2.refl (env : Env) (R : Rw) : Fr2 env R R := ⟨fun _ _ => rfl, fun _ => Iff.rfl⟩
theorem Fr2.trans {env : Env} {R R' R'' : Rw} (x : Fr2 env R R') (y : Fr2 env R' R'') : Fr2 env R R'' := ⟨fun a n => (y.off a n).trans (x.off a n), fun a => (y.dom a).trans (x.dom a)⟩
theorem Fr2.own {env : Env} {R R' : Rw} {σ : Sg} (x : Fr2 env R R') : own σ R' = own σ R := by
  funext a; unfold PyW.own; rw [show (R' a ≠ none) = (R a ≠ none) from by rw [Ne, Ne, x.dom a]]
/-- a run of a tree of statements -/
noncomputable def PostF {α : Type} (c : Cx) (σ : Sg) (R : Rw) (env : Env) (s : Shared) (P : α → Heap → Rw → Fm → Sg → Prop) (f : α) (s' : Shared) : Prop :=
  ∃ h' tk σ' R' fr', s' = { s with heap := h', toks := tk } ∧ Inv c h' σ' R' ∧ Ext s.heap (own σ R) h' (own σ' R') ∧ Fr2 env R R' ∧ FrOK c h' (own σ' R') R' env fr' ∧ P f h' R' fr' σ'
theorem PostF.trans {α : Type} {c : Cx} {σ σ₁ : Sg} {R R₁ : Rw} {env : Env} {s : Shared} {h₁ : Heap} {t₁ : Nat} {P : α → Heap → Rw → Fm → Sg → Prop} {f : α} {s' : Shared} (X : Ext s.heap (own σ R) h₁ (own σ₁ R₁)) (Y : Fr2 env R R₁)
    (p : PostF c σ₁ R₁ env { s with heap := h₁, toks := t₁ } P f s') : PostF c σ R env s P f s' := by
  obtain ⟨h', tk, σ', R', fr', rfl, I, Z, W, F, q⟩ := p
  exact ⟨h', tk, σ', R', fr', rfl, I, X.trans Z, Y.trans W, F, q⟩
theorem PostF.transW {α : Type} {c : Cx} {A : Around} {σ σ₁ : Sg} {R R₁ : Rw} {env : Env} {s : Shared} {h₁ : Heap} {t₁ : Nat} {t : Sem α} {P : α → Heap → Rw → Fm → Sg → Prop} (X : Ext s.heap (own σ R) h₁ (own σ₁ R₁)) (Y : Fr2 env R R₁)
    (h : wpAny (model c.prog c.w) A t (PostF c σ₁ R₁ env { s with heap := h₁, toks := t₁ } P) (fun _ _ => False) { s with heap := h₁, toks := t₁ }) :
    wpAny (model c.prog c.w) A t (PostF c σ R env s P) (fun _ _ => False) { s with heap := h₁, toks := t₁ } := wpAny_mono h (fun _ _ p => p.trans X Y) fun _ _ e => e
theorem PostF.then {α : Type} {c : Cx} {A : Around} {σ : Sg} {R : Rw} {env : Env} {s : Shared} {t : Sem α} {P : α → Heap → Rw → Fm → Sg → Prop} {K : α → Shared → Prop}
    (h : wpAny (model c.prog c.w) A t (PostF c σ R env s P) (fun _ _ => False) s)
    (k : ∀ f h₁ t₁ σ₁ R₁ fr₁, Inv c h₁ σ₁ R₁ → Ext s.heap (own σ R) h₁ (own σ₁ R₁) → Fr2 env R R₁ → FrOK c h₁ (own σ₁ R₁) R₁ env fr₁ → P f h₁ R₁ fr₁ σ₁ → K f { s with heap := h₁, toks := t₁ }) :
    wpAny (model c.prog c.w) A t K (fun _ _ => False) s :=
  wpAny_mono h (fun f s' p => by obtain ⟨h', tk, σ', R', fr', rfl, I, X, Y, F, q⟩ := p; exact k f h' tk σ' R' fr' I X Y F q) fun _ _ e => e
noncomputable abbrev PT (Q : Fm → Sg → Prop) : Unit → Heap → Rw → Fm → Sg → Prop := fun _ _ _ fr σ => Q fr σ
/-- how a body ends -/
inductive Fl where
  | next | brk | ret (v : V)
noncomputable def FlIs (c : Cx) (h : Heap) (ow : Addr → Prop) : Fl → Flow → Prop
  | .next, f => f = .next
  | .brk, f => f = .brk
  | .ret v, f => ∃ r, f = .ret r ∧ RelV c h ow v r
theorem FlIs.ext {c : Cx} {h h' : Heap} {ow ow' : Addr → Prop} {fl : Fl} {f : Flow} (e : FlIs c h ow fl f) (X : Ext h ow h' ow') : FlIs c h' ow' fl f := by
  cases fl with
  | next => exact e
  | brk => exact e
  | ret v => obtain ⟨r, e1, e2⟩ := e; exact ⟨r, e1, e2.ext X⟩
noncomputable abbrev PS (c : Cx) (Q : Fl → Fm → Sg → Prop) : Flow → Heap → Rw → Fm → Sg → Prop := fun f h R fr σ => ∃ fl, FlIs c h (own σ R) fl f ∧ Q fl fr σ
noncomputable def SemT (c : Cx) (n : Nat) (env : Env) (t : Expr) (v : V) (fr : Fm) (σ : Sg) (Q : Fm → Sg → Prop) : Prop :=
  ∀ A s R rv, Room n A → Inv c s.heap σ R → FrOK c s.heap (own σ R) R env fr → RelV c s.heap (own σ R) v rv → wpAny (model c.prog c.w) A (assign t env rv) (PostF c σ R env s (PT Q)) (fun _ _ => False) s
noncomputable def SemS (c : Cx) (n : Nat) (env : Env) (st : Stmt) (fr : Fm) (σ : Sg) (Q : Fl → Fm → Sg → Prop) : Prop :=
  ∀ A s R, Room n A → Inv c s.heap σ R → FrOK c s.heap (own σ R) R env fr → wpAny (model c.prog c.w) A (exec st env) (PostF c σ R env s (PS c Q)) (fun _ _ => False) s
noncomputable def SemSs (c : Cx) (n : Nat) (env : Env) (st : List Stmt) (fr : Fm) (σ : Sg) (Q : Fl → Fm → Sg → Prop) : Prop :=
  ∀ A s R, Room n A → Inv c s.heap σ R → FrOK c s.heap (own σ R) R env fr → wpAny (model c.prog c.w) A (execs st env) (PostF c σ R env s (PS c Q)) (fun _ _ => False) s
theorem PostF.mono {α : Type} {c : Cx} {σ : Sg} {R : Rw} {env : Env} {s : Shared} {P P' : α → Heap → Rw → Fm → Sg → Prop} {f : α} {s' : Shared} (p : PostF c σ R env s P f s') (k : ∀ f h R fr σ, P f h R fr σ → P' f h R fr σ) : PostF c σ R env s P' f s' := by
  obtain ⟨h', tk, σ', R', fr', e, I, X, Y, F, q⟩ := p
  exact ⟨h', tk, σ', R', fr', e, I, X, Y, F, k _ _ _ _ _ q⟩
theorem SemT.mono {c : Cx} {n : Nat} {env : Env} {t : Expr} {v : V} {fr : Fm} {σ : Sg} {Q Q' : Fm → Sg → Prop} (h : SemT c n env t v fr σ Q) (k : ∀ fr σ, Q fr σ → Q' fr σ) : SemT c n env t v fr σ Q' :=
  fun A s R rv a b d e => wpAny_mono (h A s R rv a b d e) (fun _ _ p => p.mono fun _ _ _ _ _ q => k _ _ q) fun _ _ e => e
theorem SemS.mono {c : Cx} {n : Nat} {env : Env} {t : Stmt} {fr : Fm} {σ : Sg} {Q Q' : Fl → Fm → Sg → Prop} (h : SemS c n env t fr σ Q) (k : ∀ f fr σ, Q f fr σ → Q' f fr σ) : SemS c n env t fr σ Q' :=
  fun A s R a b d => wpAny_mono (h A s R a b d) (fun _ _ p => p.mono fun _ _ _ _ _ q => let ⟨f, q1, q2⟩ := q; ⟨f, q1, k _ _ _ q2⟩) fun _ _ e => e
theorem SemSs.mono {c : Cx} {n : Nat} {env : Env} {t : List Stmt} {fr : Fm} {σ : Sg} {Q Q' : Fl → Fm → Sg → Prop} (h : SemSs c n env t fr σ Q) (k : ∀ f fr σ, Q f fr σ → Q' f fr σ) : SemSs c n env t fr σ Q' :=
  fun A s R a b d => wpAny_mono (h A s R a b d) (fun _ _ p => p.mono fun _ _ _ _ _ q => let ⟨f, q1, q2⟩ := q; ⟨f, q1, k _ _ _ q2⟩) fun _ _ e => e
section
variable {c : Cx} {n : Nat} {env : Env} {fr : Fm} {σ : Sg} {pos : Pos} {k : Nat}
theorem fr2_upd {R : Rw} {a : Addr} {o o' : Obj} (ha : frAddr env a) (e : R a = some o) : Fr2 env R (upd R a o') :=
  ⟨fun b nb => upd_ne _ _ (fun q => nb (q ▸ ha)), fun b => by
    unfold upd; split
    · rename_i q; subst q; rw [e]; simp
    · rfl⟩
theorem store_ok {A : Around} {s : Shared} {R : Rw} {Q : Fm → Sg → Prop} {x : String} {v : V} {rv : Value} (I : Inv c s.heap σ R) (F : FrOK c s.heap (own σ R) R env fr) (r : RelV c s.heap (own σ R) v rv)
    (hk : env.kindOf (S x) = some .local ∨ env.kindOf (S x) = some .cell) (q : Q (upd fr x v) σ) :
    wpAny (model c.prog c.w) A (storeName env (S x) rv) (PostF c σ R env s (PT Q)) (fun _ _ => False) s := by
  obtain ⟨oL, m, l1, l2, l3⟩ := F.loc
  rcases hk with hk | hk
  · refine wpAny_storeName_local hk (l2.ns (I.raw _ _ l1)) (fun h' hn hs => ?_) (by rw [F.kind]; rfl)
    obtain ⟨o', e', n'⟩ := NsO.of hn
    have keep : ∀ b, b ≠ env.locals → ∀ o, s.heap.get? b = some o → h'.get? b = some o := fun b hb o e => hs.extBut b o hb e
    obtain ⟨I', X⟩ := I.rawSet l1 keep e'
    refine ⟨h', _, σ, upd R env.locals o', upd fr x v, rfl, I', X, fr2_upd (.inl rfl) l1, ⟨F.kind, F.gl, F.bl, ⟨o', _, by simp [upd_same], n', fun y w e => ?_⟩, fun Y a e => ?_, F.inj, F.cellIn⟩, q⟩
    · unfold upd at e
      split at e
      · rename_i q; subst q; cases e; exact ⟨rv, r.ext X, .inl ⟨hk, by simp⟩⟩
      · rename_i q
        obtain ⟨rw', r1, r2⟩ := l3 y w e
        refine ⟨rw', r1.ext X, ?_⟩
        rcases r2 with ⟨z1, z2⟩ | ⟨z1, a, o, z2, z3, z4⟩
        · refine .inl ⟨z1, ?_⟩
          have : ¬ S y = S x := fun w => q (S_inj w)
          simp only [this, if_false]; exact z2
        · exact .inr ⟨z1, a, o, z2, by rw [upd_ne _ _ (F.cells _ _ z2).1]; exact z3, z4⟩
    · obtain ⟨h1, o, v₀, h2, h3⟩ := F.cells Y a e
      exact ⟨h1, o, v₀, by rw [upd_ne _ _ h1]; exact h2, h3⟩
  · obtain ⟨a, ha⟩ := F.cellIn _ hk
    obtain ⟨h1, o, v₀, h2, h3⟩ := F.cells _ _ ha
    refine wpAny_storeName_cell F.kind hk ha ⟨o, I.raw _ _ h2, h3⟩ fun h' hc hs => ?_
    obtain ⟨o', e', d'⟩ := hc
    have keep : ∀ b, b ≠ a → ∀ o, s.heap.get? b = some o → h'.get? b = some o := fun b hb o e => hs.extBut b o hb e
    obtain ⟨I', X⟩ := I.rawSet h2 keep e'
    refine ⟨h', s.toks, σ, upd R a o', upd fr x v, rfl, I', X, fr2_upd (.inr ⟨_, ha⟩) h2, ⟨F.kind, F.gl, F.bl, ⟨oL, m, by rw [upd_ne _ _ (Ne.symm h1)]; exact l1, l2, fun y w e => ?_⟩, fun Y b e => ?_, F.inj, F.cellIn⟩, q⟩
    · unfold upd at e
      split at e
      · rename_i q; subst q; cases e; exact ⟨rv, r.ext X, .inr ⟨.inl hk, a, o', ha, by simp [upd_same], d'⟩⟩
      · rename_i q
        obtain ⟨rw', r1, r2⟩ := l3 y w e
        refine ⟨rw', r1.ext X, ?_⟩
        rcases r2 with ⟨z1, z2⟩ | ⟨z1, b, ob, z2, z3, z4⟩
        · exact .inl ⟨z1, z2⟩
        · refine .inr ⟨z1, b, ob, z2, ?_, z4⟩
          have : b ≠ a := fun w => q (S_inj (F.inj _ _ _ (w ▸ z2) ha))
          rw [upd_ne _ _ this]; exact z3
    · obtain ⟨g1, ob, w₀, g2, g3⟩ := F.cells Y b e
      refine ⟨g1, ?_⟩
      by_cases hb : b = a
      · subst hb; exact ⟨o', some rv, by simp [upd_same], d'⟩
      · exact ⟨ob, w₀, by rw [upd_ne _ _ hb]; exact g2, g3⟩
theorem semT_name {Q : Fm → Sg → Prop} {x : String} {v : V} (hk : env.kindOf (S x) = some .local ∨ env.kindOf (S x) = some .cell) (q : Q (upd fr x v) σ) : SemT c n env (.Name (S x) pos) v fr σ Q :=
  fun A s R rv hR I F r => wpAny_assign_Name (store_ok I F r hk q)
/-- a tuple taken apart -/
noncomputable def SemTs (c : Cx) (n : Nat) (env : Env) : List Expr → List V → Fm → Sg → (Fm → Sg → Prop) → Prop
  | [], [], fr, σ, Q => Q fr σ
  | t :: ts, v :: vs, fr, σ, Q => SemT c n env t v fr σ fun fr' σ' => SemTs c n env ts vs fr' σ' Q
  | _, _, _, _, _ => False
theorem assignEach_cons {t : Expr} {ts : List Expr} (h : notStar t = true) : assignEach (t :: ts) env = (false, assign t env) :: assignEach ts env := by
  cases t <;> first | rfl | cases h
theorem assignEach_len : ∀ {ts : List Expr}, (∀ t ∈ ts, notStar t = true) → (assignEach ts env).length = ts.length ∧ (assignEach ts env).findIdx? (·.1) = none
  | [], _ => ⟨rfl, rfl⟩
  | t :: ts, h => by
    obtain ⟨a, b⟩ := assignEach_len fun x hx => h x (.tail _ hx)
    rw [assignEach_cons (h t (.head _))]
    exact ⟨by simp [a], by simp [List.findIdx?_cons, b]⟩
theorem semTs_len {Q : Fm → Sg → Prop} : ∀ {ts : List Expr} {vs : List V} {fr : Fm} {σ : Sg}, SemTs c n env ts vs fr σ Q → ts.length = vs.length ∨ True := fun _ => .inr trivial
theorem assignInOrder_ok {Q : Fm → Sg → Prop} : ∀ {ts : List Expr} {vs : List V} {fr : Fm} {σ : Sg} {A : Around} {s : Shared} {R : Rw} {rs : List Value}, (∀ t ∈ ts, notStar t = true) → SemTs c n env ts vs fr σ Q → Room n A → Inv c s.heap σ R →
    FrOK c s.heap (own σ R) R env fr → RelVs c s.heap (own σ R) vs rs → wpAny (model c.prog c.w) A (assignInOrder ((assignEach ts env).map (·.2)) rs) (PostF c σ R env s (PT Q)) (fun _ _ => False) s
  | [], [], fr, σ, A, s, R, [], _, h, _, I, F, _ => wpAny_pure ⟨s.heap, s.toks, σ, R, fr, rfl, I, Ext.refl _ _, Fr2.refl _ _, F, h⟩
  | t :: ts, v :: vs, fr, σ, A, s, R, r :: rs, hs, h, hR, I, F, rel => by
    simp only [RelVs] at rel
    rw [assignEach_cons (hs t (.head _))]
    show wpAny _ _ (do holding rs (assign t env r); assignInOrder ((assignEach ts env).map (·.2)) rs) _ _ s
    refine wpAny_bind (wpAny_holding (PostF.then (h A s R r hR I F rel.1) fun _ h₁ t₁ σ₁ R₁ fr₁ I₁ X₁ Y₁ F₁ q => ?_))
    exact PostF.transW (s := s) (t₁ := t₁) X₁ Y₁ (assignInOrder_ok (s := { s with heap := h₁, toks := t₁ }) (fun x hx => hs x (.tail _ hx)) q hR I₁ F₁ (rel.2.ext X₁))
  | [], _ :: _, _, _, _, _, _, _, _, h, _, _, _, _ => h.elim
  | _ :: _, [], _, _, _, _, _, _, _, h, _, _, _, _ => h.elim
  | [], [], _, _, _, _, _, _ :: _, _, _, _, _, _, r => by simp [RelVs] at r
  | _ :: _, _ :: _, _, _, _, _, _, [], _, _, _, _, _, r => by simp [RelVs] at r
theorem semT_tup {Q : Fm → Sg → Prop} {ts : List Expr} {vs : List V} (hs : ∀ t ∈ ts, notStar t = true) (hl : ts.length = vs.length) (h : SemTs c n env ts vs fr σ Q) : SemT c n env (.Tuple ts k pos) (.tup vs) fr σ Q := by
  intro A s R rv hR I F r
  simp only [RelV] at r
  obtain ⟨a, arr, m, rfl, h1, h2, h3, h4⟩ := r
  have e1 := h4.length
  obtain ⟨e2, e3⟩ := assignEach_len (env := env) hs
  simp only [Array.length_toList] at e1
  refine wpAny_assign_Tuple hR.1 ⟨_, h1, rfl, m, rfl⟩ (by omega) e3 fun h' hx => ?_
  have keep : ∀ b o, s.heap.get? b = some o → h'.get? b = some o := fun b o e => hx b o (Nat.ne_of_lt (Heap.lt_size e)) e
  have X : Ext s.heap (own σ R) h' (own σ R) := Ext.keeps keep
  exact PostF.transW (s := s) (t₁ := s.toks) X (Fr2.refl _ _) (assignInOrder_ok (s := { s with heap := h' }) hs h hR (I.keeps keep) (F.ext X) (h4.ext X))
end
end PyW
namespace PyW
section
variable {c : Cx} {n : Nat} {env : Env} {fr : Fm} {σ : Sg} {pos : Pos} {k : Nat}
/-! ### loops over items -/
noncomputable def SemI (c : Cx) (n : Nat) (env : Env) (tt : Bool) (e : Expr) (fr : Fm) (σ : Sg) (Q : List V → Sg → Prop) : Prop :=
  ∀ A s R, Room n A → Inv c s.heap σ R → FrOK c s.heap (own σ R) R env fr → wpAny (model c.prog c.w) A (eval e env) (fun x s₁ => wpAny (model c.prog c.w) A (pyIter x) (ItPost c A tt σ R s Q) (fun _ _ => False) s₁) (fun _ _ => False) s
theorem rawOf_none {wr : List Addr} {h : Heap} {R : Rw} (hw : ∀ a ∈ wr, R a = none) : rawOff wr (rawOf wr h R) = R := by
  funext a
  unfold rawOff rawOf
  split
  · rename_i q; exact (hw a q).symm
  · rfl
theorem ItPost.trans {A : Around} {tt : Bool} {σ₁ : Sg} {R : Rw} {s : Shared} {h₁ : Heap} {t₁ : Nat} {Q : List V → Sg → Prop} {it : Value} {s' : Shared} (X : Ext s.heap (own σ R) h₁ (own σ₁ R))
    (p : ItPost c A tt σ₁ R { s with heap := h₁, toks := t₁ } Q it s') : ItPost c A tt σ R s Q it s' := by
  obtain ⟨h', tk, σ', z, wr, xs, St, rfl, zz, a, b, d, e, f, g⟩ := p
  exact ⟨h', tk, σ', z, wr, xs, St, rfl, zz, a, b, d, e, X.trans f, g⟩
theorem semI_of {tt : Bool} {Q : List V → Sg → Prop} {e : Expr} (h : SemE c n env e fr σ fun v σ₁ => ∃ xs, itemsOf σ₁ v = some xs ∧ Q xs σ₁) : SemI c n env tt e fr σ Q := by
  intro A s R hR I F
  refine (h A s R hR I F).then fun rv h₁ t₁ v σ₁ I₁ X₁ v_ q => ?_
  obtain ⟨xs, e1, e2⟩ := q
  exact wpAny_mono (iter_ok (s := { s with heap := h₁, toks := t₁ }) hR.1 I₁ v_ e1 e2) (fun _ _ p => p.trans X₁) fun _ _ e => e
theorem FrOK.rawMore {h : Heap} {ow : Addr → Prop} {R R' : Rw} (F : FrOK c h ow R env fr) (k : ∀ a, frAddr env a → R' a = R a) : FrOK c h ow R' env fr :=
  ⟨F.kind, F.gl, F.bl, let ⟨o, m, a, b, d⟩ := F.loc; ⟨o, m, by rw [k _ (.inl rfl)]; exact a, b, fun x v e => let ⟨rv, r1, r2⟩ := d x v e; ⟨rv, r1, r2.imp id fun ⟨z1, a, o, z2, z3, z4⟩ => ⟨z1, a, o, z2, by rw [k _ (.inr ⟨_, z2⟩)]; exact z3, z4⟩⟩⟩,
    fun X a e => let ⟨p, o, v, q, r⟩ := F.cells X a e; ⟨p, o, v, by rw [k _ (.inr ⟨_, e⟩)]; exact q, r⟩, F.inj, F.cellIn⟩
theorem FrOK.addr {h : Heap} {ow : Addr → Prop} {R : Rw} (F : FrOK c h ow R env fr) {a : Addr} (k : frAddr env a) : R a ≠ none := by
  rcases k with rfl | ⟨X, e⟩
  · obtain ⟨o, _, q, _⟩ := F.loc; rw [q]; exact fun z => nomatch z
  · obtain ⟨_, o, _, q, _⟩ := F.cells X a e; rw [q]; exact fun z => nomatch z
noncomputable def SemFor (c : Cx) (n : Nat) (env : Env) (target : Expr) (body : List Stmt) : List V → Fm → Sg → (Fl → Fm → Sg → Prop) → Prop
  | [], fr, σ, Q => Q .next fr σ
  | x :: xs, fr, σ, Q => SemT c n env target x fr σ fun fr₁ σ₁ => SemSs c n env body fr₁ σ₁ fun fl fr₂ σ₂ => match fl with
    | .next => SemFor c n env target body xs fr₂ σ₂ Q
    | .brk => Q .next fr₂ σ₂
    | .ret v => Q (.ret v) fr₂ σ₂
noncomputable def notSet (e : Expr) : Bool := !(Nat.beq e.ctorIdx 7)
theorem folded_plain {e : Expr} (h : notSet e = true) (x : Value) : foldedSetIterable e env x = pure x := by
  cases e <;> first | rfl | cases h
theorem sumMono {α : Type} {M : Model} {A : Around} {t : Sem α} {Q Q' : α → Shared → Prop} {E : Value → Shared → Prop} {s : Shared} (h : wpAny M A t Q (fun _ _ => False) s) (k : ∀ a s, Q a s → Q' a s) : wpAny M A t Q' E s :=
  wpAny_mono h k fun _ _ f => f.elim
theorem semS_for {Q : Fl → Fm → Sg → Prop} {target iter : Expr} {body : List Stmt} (hs : notSet iter = true) (h : SemI c n env (isTupT target) iter fr σ fun xs σ₁ => SemFor c n env target body xs fr σ₁ Q) : SemS c n env (.For target iter body [] pos) fr σ Q := by
  intro A s R hR I₀ F₀
  refine wpAny_For (wpAny_mono (h A s R hR I₀ F₀) (fun x s₁ h₁ => wpAny_mono h₁ (fun it s₂ p => ?_) fun _ _ f => f) fun _ _ f => f) (folded_plain hs)
  obtain ⟨h₂, t₂, σ₂, zz, wr, xs, St, rfl, ztt, W, hw, hz, I₂, X₂, hw', st, q⟩ := p
  have apart : ∀ a ∈ wr, ¬ frAddr env a := fun a ha f => F₀.addr f (hw a ha)
  refine codeAny_mono (R := fun r s' => match r with | .ok f => PostF c σ R env s (PS c Q) f s' | .error _ => False) ?_ (fun r s' z => by cases r <;> first | exact z | exact z.elim)
  refine codeAny_forLoop_any (fun m s' => ∃ i h' tk σ' R' fr', s' = { s with heap := h', toks := tk } ∧ i ≤ xs.length ∧ m = xs.length + 1 - i ∧ Inv c h' σ' R' ∧ Ext s.heap (own σ R) h' (own σ' R') ∧ (∀ a ∈ wr, R' a ≠ none) ∧ St i h' (own σ' R') ∧
      (∀ a, a ∉ wr → ¬ frAddr env a → R' a = R a) ∧ (∀ a, a ∉ wr → (R' a = none ↔ R a = none)) ∧ FrOK c h' (own σ' R') R' env fr' ∧ SemFor c n env target body (xs.drop i) fr' σ' Q) ?_ (xs.length + 1) ?_
  · rintro m s' ⟨i, h', tk, σ', R', fr', rfl, hi, rfl, I', X', hw2, st', off', dom', F', sf⟩
    -- what the end of the loop, by whatever way, leaves
    have leave : ∀ (h₅ : Heap) (t₅ : Nat) (σ₅ : Sg) (R₅ : Rw) (fr₅ : Fm) (fl : Fl) (f : Flow), Inv c h₅ σ₅ R₅ → Ext s.heap (own σ R) h₅ (own σ₅ R₅) → (∀ a, a ∉ wr → ¬ frAddr env a → R₅ a = R a) → (∀ a, a ∉ wr → (R₅ a = none ↔ R a = none)) →
        FrOK c h₅ (own σ₅ R₅) R₅ env fr₅ → FlIs c h₅ (own σ₅ R₅) fl f → Q fl fr₅ σ₅ → PostF c σ R env s (PS c Q) f { s with heap := h₅, toks := t₅ } := by
      intro h₅ t₅ σ₅ R₅ fr₅ fl f I₅ X₅ o₅ d₅ F₅ fi q₅
      have sub : ∀ a o, rawOff wr R₅ a = some o → R₅ a = some o := fun a o e => by
        unfold rawOff at e
        split at e
        · cases e
        · exact e
      have X₆ : Ext h₅ (own σ₅ R₅) h₅ (own σ₅ (rawOff wr R₅)) := Ext.rawLess sub
      refine ⟨h₅, t₅, σ₅, rawOff wr R₅, fr₅, rfl, I₅.rawLess sub, X₅.trans X₆, ⟨fun a na => ?_, fun a => ?_⟩, (F₅.ext X₆).rawMore fun a fa => rawOff_off fun z => apart a z fa, fl, fi.ext X₆, q₅⟩
      · by_cases z : a ∈ wr
        · simp only [rawOff, z, if_true]; exact (hw a z).symm
        · rw [rawOff_off z]; exact o₅ a z na
      · by_cases z : a ∈ wr
        · simp only [rawOff, z, if_true, hw a z]
        · rw [rawOff_off z]; exact d₅ a z
    by_cases hlt : i < xs.length
    · have hv : xs[i]? = some xs[i] := List.getElem?_eq_getElem hlt
      rw [List.drop_eq_getElem_cons hlt] at sf
      unfold SemFor at sf
      refine sumMono (W.item i { s with heap := h', toks := tk } σ' R' xs[i] target (fun rv s₂ => wpAny (model c.prog c.w) A (assign target env rv) (fun _ s₂ => wpAny (model c.prog c.w) A (execs body env) (fun f s₃ => match f with
            | .next | .cont => ∃ m, m < xs.length + 1 - i ∧ ∃ i h' tk σ' R' fr', s₃ = { s with heap := h', toks := tk } ∧ i ≤ xs.length ∧ m = xs.length + 1 - i ∧ Inv c h' σ' R' ∧ Ext s.heap (own σ R) h' (own σ' R') ∧ (∀ a ∈ wr, R' a ≠ none) ∧ St i h' (own σ' R') ∧
      (∀ a, a ∉ wr → ¬ frAddr env a → R' a = R a) ∧ (∀ a, a ∉ wr → (R' a = none ↔ R a = none)) ∧ FrOK c h' (own σ' R') R' env fr' ∧ SemFor c n env target body (xs.drop i) fr' σ' Q
            | .brk => PostF c σ R env s (PS c Q) .next s₃
            | .ret v => PostF c σ R env s (PS c Q) (.ret v) s₃) (fun _ _ => False) s₂) (fun _ _ => False) s₂) ztt hv I' hw2 st' ?_) (fun r s₁ z => ?_)
      · intro rv h₃ t₃ R₃ off₃ hw₃ I₃ X₃ st₃ r₃
        have R₃eq : ∀ a, frAddr env a → R₃ a = R' a := fun a fa => off₃ a fun z => apart a z fa
        have F₃ := (F'.ext X₃).rawMore R₃eq
        refine PostF.then (sf A { s with heap := h₃, toks := t₃ } R₃ rv hR I₃ F₃ r₃) fun _ h₄ t₄ σ₄ R₄ fr₄ I₄ X₄ Y₄ F₄ q₄ => ?_
        refine PostF.then (q₄ A { s with heap := h₄, toks := t₄ } R₄ hR I₄ F₄) fun f h₅ t₅ σ₅ R₅ fr₅ I₅ X₅ Y₅ F₅ q₅ => ?_
        obtain ⟨fl, fi, q₅⟩ := q₅
        have Y := Y₄.trans Y₅
        have X := (X'.trans X₃).trans (X₄.trans X₅)
        have o₅ : ∀ a, a ∉ wr → ¬ frAddr env a → R₅ a = R a := fun a z na => by rw [Y.off a na, off₃ a z]; exact off' a z na
        have d₅ : ∀ a, a ∉ wr → (R₅ a = none ↔ R a = none) := fun a z => by rw [Y.dom a, off₃ a z]; exact dom' a z
        cases fl with
        | next =>
          cases (show f = .next from fi)
          refine ⟨xs.length + 1 - (i + 1), by omega, i + 1, h₅, t₅, σ₅, R₅, fr₅, rfl, hlt, rfl, I₅, X, fun a ha => ?_, ?_, o₅, d₅, F₅, q₅⟩
          · rw [Ne, Y.dom a]; exact hw₃ a ha
          · refine W.frame _ _ _ _ _ st₃ (X₄.trans X₅) fun a ha o e => ?_
            have na := apart a ha
            obtain ⟨o', ho'⟩ : ∃ o', R₃ a = some o' := by
              cases z : R₃ a with
              | none => exact absurd z (hw₃ a ha)
              | some o' => exact ⟨o', rfl⟩
            have e1 := I₃.raw a o' ho'
            rw [e1] at e; cases e
            exact I₅.raw a _ (by rw [Y.off a na]; exact ho')
        | brk =>
          cases (show f = .brk from fi)
          exact leave h₅ t₅ σ₅ R₅ fr₅ .next .next I₅ X o₅ d₅ F₅ rfl q₅
        | ret v =>
          obtain ⟨r, rfl, rr⟩ := fi
          exact leave h₅ t₅ σ₅ R₅ fr₅ (.ret v) (.ret r) I₅ X o₅ d₅ F₅ ⟨r, rfl, rr⟩ q₅
      · cases r with
        | none => exact z.elim
        | some rv =>
          refine sumMono z fun _ s₂ z => sumMono z fun _ s₂ z => sumMono z fun f s₃ z => ?_
          cases f <;> exact z
    · have hin : i = xs.length := by omega
      subst hin
      rw [List.drop_length] at sf
      refine sumMono (W.done { s with heap := h', toks := tk } σ' R' (fun s₁ => PostF c σ R env s (PS c Q) .next s₁) I' hw2 st' ?_) (fun r s₁ z => ?_)
      · intro h₃ t₃ I₃ X₃
        refine ⟨h₃, t₃, σ', rawOff wr R', fr', rfl, I₃, X'.trans X₃, ⟨fun a na => ?_, fun a => ?_⟩, (F'.ext X₃).rawMore fun a fa => rawOff_off fun z => apart a z fa, .next, rfl, sf⟩
        · by_cases z : a ∈ wr
          · simp only [rawOff, z, if_true]; exact (hw a z).symm
          · rw [rawOff_off z]; exact off' a z na
        · by_cases z : a ∈ wr
          · simp only [rawOff, z, if_true, hw a z]
          · rw [rawOff_off z]; exact dom' a z
      · obtain ⟨rfl, z⟩ := z
        exact wpAny_execs_nil z
  · refine ⟨0, h₂, t₂, σ₂, rawOf wr h₂ R, fr, rfl, Nat.zero_le _, rfl, I₂, X₂, hw', st, fun a z _ => rawOf_off z, fun a z => by rw [rawOf_off z], (F₀.ext X₂).rawMore fun a fa => rawOf_off fun z => apart a z fa, by simpa using q⟩
/-! ### while -/
noncomputable def SemWhile (c : Cx) (n : Nat) (env : Env) (test : Expr) (body : List Stmt) (fr : Fm) (σ : Sg) (Q : Fl → Fm → Sg → Prop) : Prop :=
  ∃ (J : Nat → Fm → Sg → Prop) (k : Nat), J k fr σ ∧ ∀ k fr σ, J k fr σ → SemB c n env test fr σ fun b σ₁ => if b = true then SemSs c n env body fr σ₁ fun fl fr₂ σ₂ => match fl with
    | .next => ∃ m, m < k ∧ J m fr₂ σ₂
    | .brk => Q .next fr₂ σ₂
    | .ret v => Q (.ret v) fr₂ σ₂
  else Q .next fr σ₁
theorem semS_while {Q : Fl → Fm → Sg → Prop} {test : Expr} {body : List Stmt} (h : SemWhile c n env test body fr σ Q) : SemS c n env (.While test body [] pos) fr σ Q := by
  intro A s R hR I₀ F₀
  obtain ⟨J, k₀, j₀, turn⟩ := h
  refine wpAny_While ?_
  refine codeAny_mono (R := fun r s' => match r with | .ok f => PostF c σ R env s (PS c Q) f s' | .error _ => False) ?_ (fun r s' z => by cases r <;> first | exact z | exact z.elim)
  refine codeAny_whileLoop (fun m s' => ∃ h' tk σ' R' fr', s' = { s with heap := h', toks := tk } ∧ Inv c h' σ' R' ∧ Ext s.heap (own σ R) h' (own σ' R') ∧ Fr2 env R R' ∧ FrOK c h' (own σ' R') R' env fr' ∧ J m fr' σ') ?_ k₀ ⟨s.heap, s.toks, σ, R, fr, rfl, I₀, Ext.refl _ _, Fr2.refl _ _, F₀, j₀⟩
  rintro m s' ⟨h', tk, σ', R', fr', rfl, I', X', Y', F', j⟩
  refine sumMono (turn m fr' σ' j A { s with heap := h', toks := tk } R' hR I' F') fun b s₂ p => ?_
  obtain ⟨h₂, t₂, σ₂, rfl, I₂, X₂, q⟩ := p
  dsimp only [PB] at q
  have F₂ := F'.ext X₂
  cases b with
  | false =>
    simp only [Bool.false_eq_true, if_false] at q ⊢
    exact wpAny_execs_nil ⟨h₂, t₂, σ₂, R', fr', rfl, I₂, X'.trans X₂, Y', F₂, .next, rfl, q⟩
  | true =>
    simp only [if_true] at q ⊢
    refine sumMono (q A { s with heap := h₂, toks := t₂ } R' hR I₂ F₂) fun f s₃ p => ?_
    obtain ⟨h₃, t₃, σ₃, R₃, fr₃, rfl, I₃, X₃, Y₃, F₃, fl, fi, q₃⟩ := p
    have X := (X'.trans X₂).trans X₃
    cases fl with
    | next => cases (show f = .next from fi); obtain ⟨m', hm, j'⟩ := q₃; exact ⟨m', hm, h₃, t₃, σ₃, R₃, fr₃, rfl, I₃, X, Y'.trans Y₃, F₃, j'⟩
    | brk => cases (show f = .brk from fi); exact ⟨h₃, t₃, σ₃, R₃, fr₃, rfl, I₃, X, Y'.trans Y₃, F₃, .next, rfl, q₃⟩
    | ret v => obtain ⟨r, rfl, rr⟩ := fi; exact ⟨h₃, t₃, σ₃, R₃, fr₃, rfl, I₃, X, Y'.trans Y₃, F₃, .ret v, ⟨r, rfl, rr⟩, q₃⟩
/-! ### plain statements -/
theorem SemE.thenS {α : Type} {A : Around} {s : Shared} {R : Rw} {e : Expr} {Q : V → Sg → Prop} {K : Value → Shared → Prop} (h : SemE c n env e fr σ Q) (hR : Room n A) (I : Inv c s.heap σ R) (F : FrOK c s.heap (own σ R) R env fr)
    (k : ∀ rv h₁ t₁ v σ₁, Inv c h₁ σ₁ R → Ext s.heap (own σ R) h₁ (own σ₁ R) → FrOK c h₁ (own σ₁ R) R env fr → RelV c h₁ (own σ₁ R) v rv → Q v σ₁ → K rv { s with heap := h₁, toks := t₁ }) :
    wpAny (model c.prog c.w) A (eval e env) K (fun _ _ => False) s := (h A s R hR I F).then fun rv h₁ t₁ v σ₁ I₁ X₁ r q => k rv h₁ t₁ v σ₁ I₁ X₁ (F.ext X₁) r q
theorem semS_ret {Q : Fl → Fm → Sg → Prop} {e : Expr} (h : SemE c n env e fr σ fun v σ₁ => Q (.ret v) fr σ₁) : SemS c n env (.Return (some e) pos) fr σ Q := by
  intro A s R hR I F
  exact wpAny_Return_some (h.thenS (α := Value) hR I F fun rv h₁ t₁ v σ₁ I₁ X₁ F₁ r q => ⟨h₁, t₁, σ₁, R, fr, rfl, I₁, X₁, Fr2.refl _ _, F₁, .ret v, ⟨rv, rfl, r⟩, q⟩)
theorem semS_ret0 {Q : Fl → Fm → Sg → Prop} (h : Q (.ret .none) fr σ) : SemS c n env (.Return none pos) fr σ Q :=
  fun A s R hR I F => wpAny_Return_none ⟨s.heap, s.toks, σ, R, fr, rfl, I, Ext.refl _ _, Fr2.refl _ _, F, .ret .none, ⟨.none, rfl, by simp [RelV]⟩, h⟩
theorem semS_if {Q : Fl → Fm → Sg → Prop} {t : Expr} {a b : List Stmt} (h : SemB c n env t fr σ fun x σ₁ => if x = true then SemSs c n env a fr σ₁ Q else SemSs c n env b fr σ₁ Q) : SemS c n env (.If t a b pos) fr σ Q := by
  intro A s R hR I F
  refine wpAny_If (PostG.then (β := Flow) (h A s R hR I F) fun x h₁ t₁ σ₁ I₁ X₁ q => ?_)
  dsimp only [PB] at q
  cases x
  · exact PostF.transW (s := s) (t₁ := t₁) X₁ (Fr2.refl _ _) (q A { s with heap := h₁, toks := t₁ } R hR I₁ (F.ext X₁))
  · exact PostF.transW (s := s) (t₁ := t₁) X₁ (Fr2.refl _ _) (q A { s with heap := h₁, toks := t₁ } R hR I₁ (F.ext X₁))
theorem semS_expr {Q : Fl → Fm → Sg → Prop} {e : Expr} (h : SemE c n env e fr σ fun v σ₁ => Q .next fr σ₁) (hs : swapsWith e none pos.line env = pure false) : SemS c n env (.Expr e pos) fr σ Q := by
  intro A s R hR I F
  exact wpAny_Expr_any (h.thenS (α := Value) hR I F fun rv h₁ t₁ v σ₁ I₁ X₁ F₁ r q => ⟨h₁, t₁, σ₁, R, fr, rfl, I₁, X₁, Fr2.refl _ _, F₁, .next, rfl, q⟩) (by simp [interactive, F.kind]) hs
theorem semS_pass {Q : Fl → Fm → Sg → Prop} (h : Q .next fr σ) : SemS c n env (.Pass pos) fr σ Q :=
  fun A s R hR I F => wpAny_Pass ⟨s.heap, s.toks, σ, R, fr, rfl, I, Ext.refl _ _, Fr2.refl _ _, F, .next, rfl, h⟩
theorem semS_break {Q : Fl → Fm → Sg → Prop} (h : Q .brk fr σ) : SemS c n env (.Break pos) fr σ Q :=
  fun A s R hR I F => wpAny_Break ⟨s.heap, s.toks, σ, R, fr, rfl, I, Ext.refl _ _, Fr2.refl _ _, F, .brk, rfl, h⟩
theorem semSs_nil {Q : Fl → Fm → Sg → Prop} (h : Q .next fr σ) : SemSs c n env [] fr σ Q :=
  fun A s R hR I F => wpAny_execs_nil ⟨s.heap, s.toks, σ, R, fr, rfl, I, Ext.refl _ _, Fr2.refl _ _, F, .next, rfl, h⟩
theorem semSs_cons {Q : Fl → Fm → Sg → Prop} {st : Stmt} {rest : List Stmt} (h : SemS c n env st fr σ fun fl fr₁ σ₁ => match fl with | .next => SemSs c n env rest fr₁ σ₁ Q | fl => Q fl fr₁ σ₁) : SemSs c n env (st :: rest) fr σ Q := by
  intro A s R hR I F
  refine wpAny_execs_cons (PostF.then (h A s R hR I F) fun f h₁ t₁ σ₁ R₁ fr₁ I₁ X₁ Y₁ F₁ q => ?_)
  obtain ⟨fl, fi, q⟩ := q
  cases fl with
  | next => cases (show f = .next from fi); exact PostF.transW (s := s) (t₁ := t₁) X₁ Y₁ (q A { s with heap := h₁, toks := t₁ } R₁ hR I₁ F₁)
  | brk => cases (show f = .brk from fi); exact ⟨h₁, t₁, σ₁, R₁, fr₁, rfl, I₁, X₁, Y₁, F₁, .brk, rfl, q⟩
  | ret v => obtain ⟨r, rfl, rr⟩ := fi; exact ⟨h₁, t₁, σ₁, R₁, fr₁, rfl, I₁, X₁, Y₁, F₁, .ret v, ⟨r, rfl, rr⟩, q⟩
theorem semS_assign {Q : Fl → Fm → Sg → Prop} {t e : Expr} (hn : notStar t = true) (h : SemE c n env e fr σ fun v σ₁ => SemT c n env t v fr σ₁ fun fr₂ σ₂ => Q .next fr₂ σ₂)
    (h1 : swapsWithSole [t] e pos.line env = pure false) (h2 : swappedStores [t] e env = pure none) : SemS c n env (.Assign [t] e pos) fr σ Q := by
  intro A s R hR I F
  refine wpAny_Assign_stores (h.thenS (α := Value) hR I F fun rv h₁ t₁ v σ₁ I₁ X₁ F₁ r q => ?_) h1 h2
  rw [assignEach_cons hn]
  show wpAny _ _ (assign t env rv) _ _ _
  refine PostF.then (q A { s with heap := h₁, toks := t₁ } R rv hR I₁ F₁ r) fun _ h₂ t₂ σ₂ R₂ fr₂ I₂ X₂ Y₂ F₂ q₂ => ?_
  exact ⟨h₂, t₂, σ₂, R₂, fr₂, rfl, I₂, X₁.trans X₂, Y₂, F₂, .next, rfl, q₂⟩
end
end PyW
namespace PyW
section
variable {c : Cx} {n : Nat} {env : Env} {fr : Fm} {σ : Sg} {pos : Pos} {k : Nat}
/-! ### two or three names at once -/
noncomputable def updsL (fr : Fm) : List String → List V → Fm
  | x :: xs, v :: vs => updsL (upd fr x v) xs vs
  | _, _ => fr
theorem names_ok {Q : Fm → Sg → Prop} : ∀ {xs : List String} {vs : List V} {fr : Fm} {σ : Sg} {A : Around} {s : Shared} {R : Rw} {rs : List Value}, xs.length = vs.length → (∀ x ∈ xs, env.kindOf (S x) = some .local) → Q (updsL fr xs vs) σ →
    Inv c s.heap σ R → FrOK c s.heap (own σ R) R env fr → RelVs c s.heap (own σ R) vs rs → wpAny (model c.prog c.w) A (assignInOrder (xs.map fun x => bindName env (S x)) rs) (PostF c σ R env s (PT Q)) (fun _ _ => False) s
  | [], [], fr, σ, A, s, R, [], _, _, q, I, F, _ => wpAny_pure ⟨s.heap, s.toks, σ, R, fr, rfl, I, Ext.refl _ _, Fr2.refl _ _, F, q⟩
  | x :: xs, v :: vs, fr, σ, A, s, R, r :: rs, hl, hk, q, I, F, rel => by
    simp only [RelVs] at rel
    show wpAny _ _ (do holding rs (bindName env (S x) r); assignInOrder (xs.map fun x => bindName env (S x)) rs) _ _ s
    refine wpAny_bind (wpAny_holding (wpAny_bindName (PostF.then (store_ok (Q := fun f s' => f = upd fr x v ∧ s' = σ) I F rel.1 (.inl (hk x (.head _))) ⟨rfl, rfl⟩) fun _ h₁ t₁ σ₁ R₁ fr₁ I₁ X₁ Y₁ F₁ q₁ => ?_)))
    obtain ⟨rfl, rfl⟩ := q₁
    exact PostF.transW (s := s) (t₁ := t₁) X₁ Y₁ (names_ok (s := { s with heap := h₁, toks := t₁ }) (by simpa using hl) (fun y hy => hk y (.tail _ hy)) q I₁ F₁ (rel.2.ext X₁))
  | [], _ :: _, _, _, _, _, _, _, h, _, _, _, _, _ => by simp at h
  | _ :: _, [], _, _, _, _, _, _, h, _, _, _, _, _ => by simp at h
  | [], [], _, _, _, _, _, _ :: _, _, _, _, _, _, r => by simp [RelVs] at r
  | _ :: _, _ :: _, _, _, _, _, _, [], _, _, _, _, _, r => by simp [RelVs] at r
theorem RelVs.reverse {h : Heap} {ow : Addr → Prop} : ∀ {l : List V} {rs : List Value}, RelVs c h ow l rs → RelVs c h ow l.reverse rs.reverse
  | [], [], _ => by simp [RelVs]
  | v :: l, r :: rs, e => by simp only [RelVs] at e; simp only [List.reverse_cons]; exact (RelVs.reverse e.2).snoc e.1
  | [], _ :: _, e => by simp [RelVs] at e
  | _ :: _, [], e => by simp [RelVs] at e
theorem updsL_rev {fr : Fm} {xs : List String} {vs : List V} (hn : xs.Nodup) (hl : xs.length = vs.length) (h3 : xs.length = 2 ∨ xs.length = 3) : updsL fr xs.reverse vs.reverse = updsL fr xs vs := by
  rcases h3 with h | h
  · match xs, vs, hl, h, hn with
    | [a, b], [v, w], _, _, hn =>
      simp at hn
      simp only [List.reverse_cons, List.reverse_nil, List.nil_append, List.cons_append, updsL]
      funext z; simp only [upd]
      by_cases e1 : z = a <;> by_cases e2 : z = b <;> simp_all
  · match xs, vs, hl, h, hn with
    | [a, b, d], [v, w, u], _, _, hn =>
      simp at hn
      simp only [List.reverse_cons, List.reverse_nil, List.nil_append, List.cons_append, updsL]
      funext z; simp only [upd]
      by_cases e1 : z = a <;> by_cases e2 : z = b <;> by_cases e3 : z = d <;> simp_all
theorem semS_swap {Q : Fl → Fm → Sg → Prop} {ts : List Expr} {p' : Pos} {e : Expr} {xs : List String} (hn : xs.Nodup) (hk : ∀ x ∈ xs, env.kindOf (S x) = some .local) (h3 : xs.length = 2 ∨ xs.length = 3)
    (h : SemE c n env e fr σ fun v σ₁ => ∃ vs, v = .tup vs ∧ xs.length = vs.length ∧ Q .next (updsL fr xs vs) σ₁)
    (h1 : swapsWithSole [.Tuple ts k p'] e pos.line env = pure false) (h2 : swappedStores [.Tuple ts k p'] e env = pure (some (xs.map S))) : SemS c n env (.Assign [.Tuple ts k p'] e pos) fr σ Q := by
  intro A s R hR I F
  show wpAny _ _ (do
    standAt pos
    if ← swapsWithSole [.Tuple ts k p'] e pos.line env then do
      evalThenUse e env fun v => assignAll v ((assignEach [.Tuple ts k p'] env).map (·.2))
      pure .next
    else do
      let v ← eval e env
      assignStores env v (← swappedStores [.Tuple ts k p'] e env) ((assignEach [.Tuple ts k p'] env).map (·.2))) _ _ s
  rw [h1, h2]
  refine wpAny_bind (wpAny_standAt (wpAny_bind (wpAny_pure (wpAny_ite_false (by simp) ?_))))
  refine wpAny_bind (h.thenS (α := Value) hR I F fun rv h₁ t₁ v σ₁ I₁ X₁ F₁ r q => wpAny_bind (wpAny_pure ?_))
  obtain ⟨vs, rfl, hl, q⟩ := q
  simp only [RelV] at r
  obtain ⟨a, arr, m, rfl, g1, g2, g3, g4⟩ := r
  have e1 := g4.length
  simp only [Array.length_toList] at e1
  show wpAny _ _ (do
    rule "assign.swapped-stores"
    let items ← unpackItems (.ref a) (xs.map S).length none
    assignInOrder ((xs.map S).reverse.map fun n => bindName env n) items.reverse
    pure Flow.next) _ _ _
  refine wpAny_bind (wpAny_rule (wpAny_bind ?_))
  rw [show (xs.map S).length = arr.size from by simp; omega]
  refine wpAny_unpackItems_tuple (s := { s with heap := h₁, toks := t₁ }) hR.1 ⟨_, g1, rfl, m, rfl⟩ fun h' hx => ?_
  have keep : ∀ b o, h₁.get? b = some o → h'.get? b = some o := fun b o e => hx b o (Nat.ne_of_lt (Heap.lt_size e)) e
  have X₂ : Ext h₁ (own σ₁ R) h' (own σ₁ R) := Ext.keeps keep
  have e2 : (xs.map S).reverse.map (fun n => bindName env n) = xs.reverse.map fun x => bindName env (S x) := by simp
  rw [e2]
  refine wpAny_bind (PostF.then (names_ok (s := { s with heap := h', toks := t₁ }) (xs := xs.reverse) (vs := vs.reverse) (Q := fun f s' => Q .next f s') (by simpa using hl) (fun x hx => hk x (by simpa using hx)) (by rw [updsL_rev hn hl h3]; exact q) (I₁.keeps keep) (F₁.ext X₂) ((g4.ext X₂).reverse))
    fun _ h₃ t₃ σ₃ R₃ fr₃ I₃ X₃ Y₃ F₃ q₃ => ?_)
  exact wpAny_pure ⟨h₃, t₃, σ₃, R₃, fr₃, rfl, I₃, (X₁.trans X₂).trans X₃, Y₃, F₃, .next, rfl, q₃⟩
/-! ### items, slices -/
theorem sem_idx {Q : V → Sg → Prop} {value slice : Expr} (hs : notSlice slice = true) (h : SemE c n env value fr σ fun va σ₁ => SemE c n env slice fr σ₁ fun vb σ₂ => wIdx σ₂ va vb fun v => Q v σ₂) : SemE c n env (.Subscript value slice pos) fr σ Q := by
  intro A s R hR I F
  refine Subscript_ ((h A s R hR I F).then fun ra h₁ t₁ va σ₁ I₁ X₁ va_ h₁' => ?_)
  refine (h₁' A { s with heap := h₁, toks := t₁ } R hR I₁ (F.ext X₁)).then fun rb h₂ t₂ vb σ₂ I₂ X₂ vb_ h₂' => ?_
  exact SemV.trans (s := s) (t₁ := t₂) (X₁.trans X₂) (idx_ok (s := { s with heap := h₂, toks := t₂ }) hs I₂ (va_.ext X₂) vb_ h₂')
noncomputable def asList (σ : Sg) : V → Option (List V)
  | .list l => some l
  | .ref a => match σ a with
    | some (.list l) => some l
    | _ => none
  | _ => none
theorem asList_rel {h : Heap} {R : Rw} {v : V} {r : Value} {l : List V} (I : Inv c h σ R) (e : asList σ v = some l) (rel : RelV c h (own σ R) v r) :
    ∃ a arr m, r = .ref a ∧ h.get? a = some { cls := .type "list", data := .seq arr m } ∧ arr.size ≤ sizeLine ∧ RelVs c h (own σ R) l arr.toList := by
  unfold asList at e
  split at e
  · cases e
    simp only [RelV] at rel
    obtain ⟨a, arr, m, h1, h2, h3, h4, h5⟩ := rel
    exact ⟨a, arr, m, h1, h2, h4, h5⟩
  · split at e
    · rename_i a _ l' z
      cases e
      simp only [RelV] at rel
      obtain ⟨ob, h1, arr, m, rfl, h2, h3⟩ := I.objs _ _ z
      exact ⟨a, arr, m, rel, h1, h2, h3⟩
    · cases e
  · cases e
theorem RelVs.take {h : Heap} {ow : Addr → Prop} : ∀ {l : List V} {rs : List Value} (j : Nat), RelVs c h ow l rs → RelVs c h ow (l.take j) (rs.take j)
  | _, _, 0, _ => by simp [RelVs]
  | [], [], _ + 1, _ => by simp [RelVs]
  | v :: l, r :: rs, j + 1, e => by simp only [RelVs] at e; simp only [List.take_succ_cons, RelVs]; exact ⟨e.1, RelVs.take j e.2⟩
  | [], _ :: _, _ + 1, e => by simp [RelVs] at e
  | _ :: _, [], _ + 1, e => by simp [RelVs] at e
theorem RelVs.drop {h : Heap} {ow : Addr → Prop} : ∀ {l : List V} {rs : List Value} (j : Nat), RelVs c h ow l rs → RelVs c h ow (l.drop j) (rs.drop j)
  | _, _, 0, e => by simpa using e
  | [], [], _ + 1, _ => by simp [RelVs]
  | v :: l, r :: rs, j + 1, e => by simp only [RelVs] at e; simp only [List.drop_succ_cons]; exact RelVs.drop j e.2
  | [], _ :: _, _ + 1, e => by simp [RelVs] at e
  | _ :: _, [], _ + 1, e => by simp [RelVs] at e
/-- [:j] -/
theorem sem_upto {Q : V → Sg → Prop} {value hi : Expr} {sp : Pos} (own? : Bool) (h : SemE c n env value fr σ fun va σ₁ => SemE c n env hi fr σ₁ fun vb σ₂ => match vb with
    | .int j => 0 ≤ j ∧ ∃ l, asList σ₂ va = some l ∧ (if own? = true then ∀ a, σ₂ a = none → Q (.ref a) (upd σ₂ a (.list (l.take j.toNat))) else Q (.list (l.take j.toNat)) σ₂)
    | _ => False) : SemE c n env (.Subscript value (.Slice none (some hi) none sp) pos) fr σ Q := by
  intro A s R hR I F
  refine Subscript_ ((h A s R hR I F).then fun ra h₁ t₁ va σ₁ I₁ X₁ va_ h₁' => ?_)
  refine wpAny_Slice (wpAny_pure ?_)
  refine (h₁' A { s with heap := h₁, toks := t₁ } R hR I₁ (F.ext X₁)).then fun rb h₂ t₂ vb σ₂ I₂ X₂ vb_ h₂' => wpAny_pure ?_
  cases vb with
  | int j =>
    dsimp only at h₂'
    obtain ⟨j0, l, e, q⟩ := h₂'
    simp only [RelV] at vb_
    obtain ⟨t, rfl⟩ := vb_
    obtain ⟨a, arr, m, rfl, g1, g2, g3⟩ := asList_rel I₂ e (va_.ext X₂)
    let o : Obj := { cls := .type "slice", data := .fields #[.none, .int j t, .none] }
    have keep : ∀ b o', h₂.get? b = some o' → (h₂.push o).get? b = some o' := fun b o' e => Heap.get?_push_of_some o e
    have X₃ : Ext h₂ (own σ₂ R) (h₂.push o) (own σ₂ R) := Ext.keeps keep
    have I₃ := I₂.push o
    have hl : (h₂.push o).IsList a arr := ⟨_, keep _ _ g1, rfl, m, rfl⟩
    refine tail_any hl.typeIs slot_list_getitem.lookup ?_ (ops := [.ref h₂.objs.size, .ref a]) rfl
    obtain ⟨j', rfl⟩ : ∃ j' : Nat, j = (j' : Int) := ⟨j.toNat, by omega⟩
    refine wpAny_getItem_list_slice (s := { s with heap := h₂.push o, toks := t₂ }) hl ⟨_, Heap.get?_push_size _ rfl, rfl, rfl⟩ .none (.int _ _) .none (by simp) ?_ g2
    rw [slicePick_upto']
    have r := (g3.ext X₃).take j'
    have hz : (arr.toList.take j').length ≤ sizeLine := by simp; omega
    simp only [Int.toNat_natCast] at q
    cases own? with
    | false =>
      simp only [Bool.false_eq_true, if_false] at q
      exact PostE.trans (s := s) (h₁ := h₂.push o) (t₁ := t₂) ((X₁.trans X₂).trans X₃) (.lst (s := { s with heap := h₂.push o, toks := t₂ }) I₃ r hz q)
    | true =>
      simp only [if_true] at q
      exact PostE.trans (s := s) (h₁ := h₂.push o) (t₁ := t₂) ((X₁.trans X₂).trans X₃) (.lstO (s := { s with heap := h₂.push o, toks := t₂ }) I₃ r hz q)
  | _ => exact h₂'.elim
end
end PyW
namespace PyW
/-- what a law's text declares: the attributes that its instances bear -/
structure Pg where
  fields : List (String × String)
noncomputable def Pg.fld (P : Pg) (cl x : String) : Bool := P.fields.contains (cl, x)
structure FieldOK (c : Cx) (cl x : String) : Prop where
  ex : ∃ C, c.mg (S cl) = some (.ref C) ∧ plainGet c.K C (S x) = true ∧ hasDictIn c.K C = true ∧ (∃ attr, findIn c.K (.ref C) (S x) = some attr ∧ noGet c.K attr = true) ∧
    findIn c.K (.ref C) "__setattr__" = some (some (.builtin "object.__setattr__")) ∧ plainOver c.K C = true ∧ takerIn c.K C (S x) = some none
/-- the built-in functions and types that stand under their own names -/
noncomputable def biFuns : List String := ["len", "sum", "min", "max", "sorted"]
noncomputable def biTypes : List String := ["tuple", "list", "range", "zip", "dict"]
structure CxOK (P : Pg) (c : Cx) : Prop where
  X : c.K.In c.base
  g : c.base.Ns mainGlobals c.mg
  b : c.base.Ns builtinsNs c.mb
  lim : c.base.NoLimit
  field : ∀ cl x, P.fld cl x = true → FieldOK c cl x
  bf : ∀ x ∈ biFuns, c.mg (S x) = none ∧ c.mb (S x) = some (.builtin x)
  bt : ∀ x ∈ biTypes, c.mg (S x) = none ∧ c.mb (S x) = some (.type x)
noncomputable def setL (l : List (String × V)) (x : String) (v : V) : List (String × V) := match l with
  | [] => [(x, v)]
  | (y, w) :: r => if y = x then (y, v) :: r else (y, w) :: setL r x v
section
variable {c : Cx} {P : Pg} {n : Nat} {env : Env} {fr : Fm} {σ : Sg} {pos : Pos} {k : Nat}
theorem isStr_S {t : Tok} {x y : String} : (Value.str (S y) t).isStr (S x) = decide (y = x) := by
  show (S y == S x) = _
  by_cases e : y = x
  · subst e; simp
  · rw [S_ne e]; simp [e]
theorem RelN.get {h : Heap} {ow : Addr → Prop} : ∀ {l : List (String × V)} {es : List DictEntry} {x : String}, RelN c h ow l es → (∀ v, l.lookup x = some v → ∃ rv, es.find? (·.key.isStr (S x)) = some rv ∧ RelV c h ow v rv.val) ∧ (l.lookup x = none → es.find? (·.key.isStr (S x)) = none) ∧ es.any (·.refKey) = false
  | [], [], x, _ => ⟨fun v e => by simp at e, fun _ => rfl, rfl⟩
  | (y, w) :: l, e :: es, x, r => by
    obtain ⟨⟨t, r1⟩, r2, r3, r4⟩ := r
    obtain ⟨i1, i2, i3⟩ := RelN.get (x := x) r4
    have hr : e.refKey = false := by unfold DictEntry.refKey; rw [r1]
    by_cases q : y = x
    · subst q
      have hk : e.key.isStr (S y) = true := by rw [r1, isStr_S]; simp
      refine ⟨fun v z => ?_, fun z => by simp at z, by simp [hr, i3]⟩
      simp at z; subst z
      exact ⟨e, by simp [List.find?_cons, hk], r3⟩
    · have hk : e.key.isStr (S x) = false := by rw [r1, isStr_S]; simp [q]
      have q' : (x == y) = false := by simpa using fun z => q z.symm
      refine ⟨fun v z => ?_, fun z => ?_, by simp [hr, i3]⟩
      · simp only [List.lookup_cons, q'] at z
        obtain ⟨rv, z1, z2⟩ := i1 v z
        exact ⟨rv, by simp only [List.find?_cons, hk]; exact z1, z2⟩
      · simp only [List.lookup_cons, q'] at z
        simp only [List.find?_cons, hk]; exact i2 z
  | [], _ :: _, _, e => by simp [RelN] at e
  | _ :: _, [], _, e => by simp [RelN] at e
theorem RelN.getL {h : Heap} {ow : Addr → Prop} {l : List (String × V)} {es : List DictEntry} {x : String} {v : V} (r : RelN c h ow l es) (e : l.lookup x = some v) : ∃ rv, getL (S x) es = some (some rv) ∧ RelV c h ow v rv := by
  obtain ⟨rv, z1, z2⟩ := (RelN.get (x := x) r).1 v e
  exact ⟨rv.val, by unfold PySem.W.getL; rw [z1], z2⟩
theorem RelN.getNone {h : Heap} {ow : Addr → Prop} {l : List (String × V)} {es : List DictEntry} {x : String} (r : RelN c h ow l es) (e : l.lookup x = none) : PySem.W.getL (S x) es = some none := by
  obtain ⟨_, z1, z2⟩ := RelN.get (x := x) r
  unfold PySem.W.getL; rw [z1 e, z2]; rfl
theorem RelN.put {h : Heap} {ow : Addr → Prop} {v : V} {rv : Value} {t : Tok} {x : String} (hv : RelV c h ow v rv) : ∀ {l : List (String × V)} {es : List DictEntry}, RelN c h ow l es → RelN c h ow (setL l x v) (putL (S x) (PyData.keyHash c.w.params (S x)) (.str (S x) t) rv es)
  | [], [], _ => ⟨⟨t, rfl⟩, rfl, hv, trivial⟩
  | (y, w) :: l, e :: es, r => by
    obtain ⟨⟨u, r1⟩, r2, r3, r4⟩ := r
    unfold setL putL
    by_cases q : y = x
    · subst q
      have hk : e.key.isStr (S y) = true := by rw [r1, isStr_S]; simp
      rw [if_pos rfl, if_pos hk]
      exact ⟨⟨u, r1⟩, r2, hv, r4⟩
    · have hk : e.key.isStr (S x) = false := by rw [r1, isStr_S]; simp [q]
      rw [if_neg q, if_neg (by simp [hk])]
      exact ⟨⟨u, r1⟩, r2, r3, RelN.put hv r4⟩
  | [], _ :: _, e => by simp [RelN] at e
  | _ :: _, [], e => by simp [RelN] at e
theorem RelN.length {h : Heap} {ow : Addr → Prop} : ∀ {l : List (String × V)} {es : List DictEntry}, RelN c h ow l es → l.length = es.length
  | [], [], _ => rfl
  | _ :: _, _ :: _, e => by simp [RelN.length e.2.2.2]
  | [], _ :: _, e => by simp [RelN] at e
  | _ :: _, [], e => by simp [RelN] at e
theorem setL_keys {x : String} {v : V} : ∀ {l : List (String × V)}, (l.map (·.1)).Nodup → ((setL l x v).map (·.1)).Nodup ∧ ∀ y, y ∈ (setL l x v).map (·.1) → y ∈ l.map (·.1) ∨ y = x
  | [], _ => by simp [setL]
  | (y, w) :: l, h => by
    simp only [List.map_cons, List.nodup_cons] at h
    unfold setL
    by_cases q : y = x
    · rw [if_pos q]
      exact ⟨by simp only [List.map_cons, List.nodup_cons]; exact h, fun z hz => .inl hz⟩
    · rw [if_neg q]
      obtain ⟨a, b⟩ := setL_keys (x := x) (v := v) h.2
      refine ⟨?_, fun z hz => ?_⟩
      · simp only [List.map_cons, List.nodup_cons]
        refine ⟨fun z => ?_, a⟩
        rcases b _ z with z | z
        · exact h.1 z
        · exact q z
      · simp only [List.map_cons, List.mem_cons] at hz ⊢
        rcases hz with hz | hz
        · exact .inl (.inl hz)
        · rcases b _ hz with z | z
          · exact .inl (.inr z)
          · exact .inr z
theorem handed {h : Heap} {ow : Addr → Prop} {v : V} {r : Value} (e : RelV c h ow v r) : handedIn r = true := by
  cases v <;> simp only [RelV] at e
  · subst e; rfl
  · subst e; rfl
  · obtain ⟨t, rfl⟩ := e; rfl
  · obtain ⟨t, rfl⟩ := e; rfl
  · obtain ⟨a, _, _, rfl, _⟩ := e; rfl
  · obtain ⟨a, _, _, rfl, _⟩ := e; rfl
  · obtain ⟨a, _, _, rfl, _⟩ := e; rfl
  · obtain ⟨a, _, _, _, rfl, _⟩ := e; rfl
  · obtain ⟨a, _, rfl, _⟩ := e; rfl
  · subst e; rfl
theorem Inv.X (O : CxOK P c) {h : Heap} {R : Rw} (I : Inv c h σ R) : c.K.In h := O.X.keeps I.base
theorem inst_at {h : Heap} {R : Rw} {x C d : Addr} {l : List (String × V)} (I : Inv c h σ R) (hx : h.get? x = some (instObj C d)) (hd : σ d = some (.ns l)) : ∃ es m, h.get? d = some (dictOf es m) ∧ (l.map (·.1)).Nodup ∧ RelN c h (own σ R) l es ∧ InstAt h x (instObj C d) C (some (dictOf es m)) := by
  obtain ⟨ob, g1, es, m, rfl, g2, g3⟩ := I.objs d _ hd
  exact ⟨es, m, g1, g2, g3, ⟨hx, rfl, rfl, g1⟩⟩
noncomputable def notCall (e : Expr) : Bool := !(Nat.beq e.ctorIdx 16)
theorem attrBase {value : Expr} (h : notCall value = true) (a : Str) (m : Sem Value) : attributeBase value a env m = m := by
  cases value <;> first | rfl | cases h
theorem attr_eval {value : Expr} {a : Str} (h : notCall value = true) : eval (.Attribute value a pos) env = (do
    let o ← eval value env
    standAt pos.atName
    let r ← holding [o] (getAttr o a true)
    letTemporaryGo value o r
    pure r) := by
  show (do let o ← attributeBase value a env (eval value env); standAt pos.atName; let r ← holding [o] (getAttr o a true); letTemporaryGo value o r; pure r) = _
  rw [attrBase h]
noncomputable def wAttr (P : Pg) (σ : Sg) (x : String) : V → (V → Prop) → Prop
  | .obj cl d, Q => match σ d with
    | some (.ns l) => P.fld cl x = true ∧ ∃ v, l.lookup x = some v ∧ Q v
    | _ => False
  | _, _ => False
theorem attr_ok (O : CxOK P c) {A : Around} {s : Shared} {R : Rw} {Q : V → Sg → Prop} {x : String} {v : V} {rv : Value} {b : Bool} (I : Inv c s.heap σ R) (r : RelV c s.heap (own σ R) v rv) (h : wAttr P σ x v fun w => Q w σ) :
    SemV c A s σ R (getAttr rv (S x) b) Q := by
  unfold wAttr at h
  split at h
  · rename_i _ cl d
    split at h
    · rename_i l e
      obtain ⟨hf, w, e2, q⟩ := h
      simp only [RelV] at r
      obtain ⟨a, C, rfl, m1, g1, g2⟩ := r
      obtain ⟨C', m2, f1, f2, ⟨attr, f3, f4⟩, _⟩ := (O.field cl x hf).ex
      rw [m1] at m2; cases m2
      obtain ⟨es, m, i1, i2, i3, i4⟩ := inst_at I g1 e
      obtain ⟨rw', z1, z2⟩ := i3.getL e2
      exact get_value (Inv.X O I) i4 (plainGet_of f1).1 (findObj_own f2 f3 f4 z1) (handed z2) (.val I z2 q)
    · exact h.elim
  · exact h.elim
theorem sem_attr (O : CxOK P c) {Q : V → Sg → Prop} {value : Expr} {x : String} (hv : notCall value = true) (h : SemE c n env value fr σ fun v σ₁ => wAttr P σ₁ x v fun w => Q w σ₁) : SemE c n env (.Attribute value (S x) pos) fr σ Q := by
  intro A s R hR I F
  refine Attribute_any_ ((h A s R hR I F).then fun ra h₁ t₁ va σ₁ I₁ X₁ va_ h₁' => ?_) (attr_eval hv)
  exact SemV.trans (s := s) (t₁ := t₁) X₁ (attr_ok O (s := { s with heap := h₁, toks := t₁ }) I₁ va_ h₁')
/-! ### an attribute stored -/
theorem setAttr_ok (O : CxOK P c) {A : Around} {s : Shared} {R : Rw} {cl x : String} {d : Addr} {l : List (String × V)} {v : V} {ro rv : Value} {K : Unit → Shared → Prop} (I : Inv c s.heap σ R) (ro_ : RelV c s.heap (own σ R) (.obj cl d) ro) (r : RelV c s.heap (own σ R) v rv)
    (e : σ d = some (.ns l)) (hf : P.fld cl x = true) (hz : (setL l x v).length ≤ 1000)
    (h : ∀ h' tk, Inv c h' (upd σ d (.ns (setL l x v))) R → Ext s.heap (own σ R) h' (own (upd σ d (.ns (setL l x v))) R) → K () { s with heap := h', toks := tk }) :
    wpAny (model c.prog c.w) A (setAttr ro (S x) rv) K (fun _ _ => False) s := by
  simp only [RelV] at ro_
  obtain ⟨a, C, rfl, m1, g1, g2⟩ := ro_
  obtain ⟨C', m2, f1, f2, _, f5, f6, f7⟩ := (O.field cl x hf).ex
  rw [m1] at m2; cases m2
  obtain ⟨es, m, i1, i2, i3, i4⟩ := inst_at I g1 e
  have X := Inv.X O I
  refine set_plain X i4 f5 (osa_open (s := { s with toks := s.toks + 1 }) X i4 f6 f7 fun b => ?_)
  obtain ⟨cd, hc, hd'⟩ := any_some f2
  have lk : PySem.W.getL (S x) es = some ((l.lookup x).map fun _ => (PySem.W.getL (S x) es).join.getD .none) ∨ True := .inr trivial
  have nr := (RelN.get (x := x) i3).2.2
  refine wpAny_bind (wpAny_pure (wpAny_bind (wpAny_bind (wpAny_loadPart (s := { s with toks := s.toks + 1 }) g1 (wpAny_bind ((looks_clsIn X hc).at ?_))))))
  rw [hd']
  refine wpAny_pure (a := some d) (wpAny_bind (wpAny_pure (wpAny_bind ?_)))
  unfold nsSet
  refine wpAny_bind (wpAny_bind (wpAny_askSetting (wpAny_pure (wpAny_bind (wpAny_mkText (wpAny_bind (wpAny_loadPart (o := dictOf es m) i1 ?_)))))))
  dsimp only
  rw [aRefKeyMayBeTheName_at, show (es.toArray.any (·.refKey)) = false from by simpa using nr, Bool.and_false]
  refine wpAny_updatePart (o := dictOf es m) i1 ?_
  have e' := putName_dict (S x) (PyData.keyHash c.w.params (S x)) (.str (S x) (s.toks + 1)) rv es m
  have pl : (putL (S x) (PyData.keyHash c.w.params (S x)) (.str (S x) (s.toks + 1)) rv es).length ≤ 1000 := by rw [← (RelN.put (x := x) (t := s.toks + 1) r i3).length]; exact hz
  have D' : (s.heap.update d (Obj.putName (S x) (PyData.keyHash c.w.params (S x)) (.str (S x) (s.toks + 1)) rv)).get? d = some (dictOf (putL (S x) (PyData.keyHash c.w.params (S x)) (.str (S x) (s.toks + 1)) rv es) (putN (S x) es m)) := by
    rw [Heap.get?_update_self _ i1 (by rw [e']; rfl), e']
  refine wpAny_bind (wpAny_lookBehind (o := dictOf (putL (S x) (PyData.keyHash c.w.params (S x)) (.str (S x) (s.toks + 1)) rv es) (putN (S x) es m)) D' (pastItsLine_dict (by rw [List.size_toArray, sizeLine_eq]; omega)) ?_)
  obtain ⟨I', X'⟩ := I.ownSet (h' := s.heap.update d (Obj.putName (S x) (PyData.keyHash c.w.params (S x)) (.str (S x) (s.toks + 1)) rv)) (o' := .ns (setL l x v)) e (fun b hb o q => (Heap.get?_update_other _ _ (Ne.symm hb)).trans q) D'
    ⟨_, _, rfl, (setL_keys i2).1, RelN.put r i3⟩
  exact wpAny_pure (h _ _ I' X')
noncomputable def wSetAttr (P : Pg) (σ : Sg) (x : String) (v : V) : V → (Sg → Prop) → Prop
  | .obj cl d, Q => match σ d with
    | some (.ns l) => (P.fld cl x = true ∧ (setL l x v).length ≤ 1000) ∧ Q (upd σ d (.ns (setL l x v)))
    | _ => False
  | _, _ => False
theorem semT_attr (O : CxOK P c) {Q : Fm → Sg → Prop} {value : Expr} {x : String} {v : V} (h : SemE c n env value fr σ fun o σ₁ => wSetAttr P σ₁ x v o fun σ₂ => Q fr σ₂) : SemT c n env (.Attribute value (S x) pos) v fr σ Q := by
  intro A s R rv hR I F r
  show wpAny _ _ (do
    let ov ← holding [rv] (eval value env)
    standAt pos.atName
    holding [rv, ov] (setAttr ov (S x) rv)
    release [rv, ov] []) _ _ s
  refine wpAny_bind (wpAny_holding (h.thenS (α := Unit) hR I F fun ro h₁ t₁ o σ₁ I₁ X₁ F₁ ro_ q => wpAny_bind (wpAny_standAt (wpAny_bind (wpAny_holding ?_)))))
  unfold wSetAttr at q
  split at q
  · rename_i _ cl d
    split at q
    · rename_i l e
      obtain ⟨⟨hf, hz⟩, q⟩ := q
      exact setAttr_ok O (s := { s with heap := h₁, toks := t₁ }) I₁ ro_ (r.ext X₁) e hf hz fun h₂ t₂ I₂ X₂ => wpAny_release ⟨h₂, t₂, _, R, fr, rfl, I₂, X₁.trans X₂, Fr2.refl _ _, F₁.ext X₂, q⟩
    · exact q.elim
  · exact q.elim
end
end PyW
namespace PyW
section
variable {c : Cx} {n : Nat} {env : Env} {fr : Fm} {σ : Sg} {pos : Pos} {k : Nat}
/-! ### comprehensions -/
/-- the cells that a comprehension's scope takes from around -/
noncomputable def closGo (env : Env) : List (Str × NameKind) → List (Str × Addr) → List (Str × Addr)
  | [], cs => cs
  | (x, .free) :: r, cs => closGo env r ((x, (env.cells.lookup x).getD 0) :: cs)
  | _ :: r, cs => closGo env r cs
theorem closureFor_eq {scope : Scope} (hf : ∀ x, (x, NameKind.free) ∈ scope.names → ∃ a, env.cells.lookup x = some a) : closureFor scope env = pure (closGo env scope.names []) := by
  have go : ∀ (l : List (Str × NameKind)) (cs : List (Str × Addr)), (∀ x, (x, NameKind.free) ∈ l → ∃ a, env.cells.lookup x = some a) →
      (forIn l cs fun (p : Str × NameKind) (cs : List (Str × Addr)) => (do
        if p.2 == NameKind.free then
          let a ← cellOf env p.1
          pure (ForInStep.yield ((p.1, a) :: cs))
        else pure (ForInStep.yield cs) : Sem (ForInStep (List (Str × Addr))))) = pure (closGo env l cs) := by
    intro l
    induction l with
    | nil => intro cs _; rfl
    | cons p l ih =>
      intro cs hl
      obtain ⟨x, kd⟩ := p
      rw [List.forIn_cons]
      cases kd with
      | free =>
        obtain ⟨a, ha⟩ := hl x (.head _)
        have e : cellOf env x = pure a := by unfold cellOf; rw [ha]
        simp only [beq_self_eq_true, if_true, e]
        show (forIn l ((x, a) :: cs) _ : Sem _) = _
        rw [ih _ fun y hy => hl y (.tail _ hy)]
        simp [closGo, ha]
      | _ =>
        show (forIn l cs _ : Sem _) = _
        rw [ih _ fun y hy => hl y (.tail _ hy)]
        rfl
  unfold closureFor
  have := go scope.names [] hf
  refine Eq.trans ?_ (congrArg (fun t => t >>= fun cs => pure cs) this)
  rfl
theorem closGo_lookup {X : Str} {a : Addr} : ∀ {l : List (Str × NameKind)} {cs : List (Str × Addr)}, (∀ x, (x, NameKind.free) ∈ l → ∃ a, env.cells.lookup x = some a) → (closGo env l cs).lookup X = some a → cs.lookup X = some a ∨ (env.cells.lookup X = some a ∧ (X, NameKind.free) ∈ l)
  | [], cs, _, h => .inl h
  | (x, kd) :: l, cs, hf, h => by
    cases kd with
    | free =>
      unfold closGo at h
      rcases closGo_lookup (fun y hy => hf y (.tail _ hy)) h with z | z
      · obtain ⟨b, hb⟩ := hf x (.head _)
        by_cases q : X = x
        · subst q
          simp only [List.lookup_cons, beq_self_eq_true, hb, Option.getD_some, Option.some.injEq] at z
          exact .inr ⟨z ▸ hb, .head _⟩
        · have q' : (X == x) = false := by simpa using q
          simp only [List.lookup_cons, q'] at z
          exact .inl z
      · exact .inr ⟨z.1, .tail _ z.2⟩
    | _ =>
      unfold closGo at h
      rcases closGo_lookup (fun y hy => hf y (.tail _ hy)) h with z | z
      · exact .inl z
      · exact .inr ⟨z.1, .tail _ z.2⟩
theorem closGo_keep {X : Str} {a : Addr} (hX : env.cells.lookup X = some a) : ∀ {l : List (Str × NameKind)} {cs : List (Str × Addr)}, cs.lookup X = some a ∨ (X, NameKind.free) ∈ l → (closGo env l cs).lookup X = some a
  | [], cs, h => by
    rcases h with h | h
    · exact h
    · cases h
  | (x, kd) :: l, cs, h => by
    cases kd with
    | free =>
      unfold closGo
      refine closGo_keep hX ?_
      by_cases q : X = x
      · subst q; exact .inl (by simp [hX])
      · have q' : (X == x) = false := by simpa using q
        rcases h with h | h
        · exact .inl (by simp only [List.lookup_cons, q']; exact h)
        · rcases List.mem_cons.mp h with h | h
          · cases h; exact absurd rfl q
          · exact .inr h
    | _ =>
      unfold closGo
      refine closGo_keep hX ?_
      rcases h with h | h
      · exact .inl h
      · rcases List.mem_cons.mp h with h | h
        · cases h
        · exact .inr h
/-- what a comprehension's scope must be -/
structure CompOK (env : Env) (scope : Scope) (free : List String) : Prop where
  kind : scope.kind = .function
  cell : ∀ x ∈ scope.names, x.2 ≠ .cell
  nm : ∀ x ∈ scope.names, x.2 = .local → scope.names.lookup x.1 = some .local
  fr1 : ∀ x, (x, NameKind.free) ∈ scope.names → ∃ y ∈ free, x = S y
  fr2 : ∀ y ∈ free, (S y, NameKind.free) ∈ scope.names ∧ scope.names.lookup (S y) = some .free ∧ (env.kindOf (S y) = some .cell ∨ env.kindOf (S y) = some .free)
/-- a list's own lookup through the relabelling -/
theorem lookup_relabel {env : Env} {X : Str} : ∀ {names : List (Str × NameKind)} {kd : NameKind}, names.lookup X = some kd →
    (names.map fun (n, k) => if (k == NameKind.free && env.scope.kind == .function && env.kindOf n == some .cell) then (n, NameKind.cell) else (n, k)).lookup X = some (if (kd == NameKind.free && env.scope.kind == .function && env.kindOf X == some .cell) then .cell else kd)
  | [], _, h => by simp at h
  | (y, k') :: r, kd, h => by
    simp only [List.map_cons]
    by_cases q : X = y
    · subst q
      simp only [List.lookup_cons, beq_self_eq_true, Option.some.injEq] at h
      subst h
      split <;> simp
    · have q' : (X == y) = false := by simpa using q
      simp only [List.lookup_cons, q'] at h
      have ih := lookup_relabel (env := env) (X := X) h
      rw [← ih]
      split <;> simp [List.lookup_cons, q']
/-- the frame that a comprehension starts with -/
noncomputable def capt (free : List String) (fr : Fm) : Fm := fun x => if x ∈ free then fr x else none
theorem FrOK.weaken {h : Heap} {ow : Addr → Prop} {R : Rw} {fr fr' : Fm} (F : FrOK c h ow R env fr) (s : ∀ x v, fr' x = some v → fr x = some v) : FrOK c h ow R env fr' :=
  ⟨F.kind, F.gl, F.bl, let ⟨o, m, a, b, d⟩ := F.loc; ⟨o, m, a, b, fun x v e => d x v (s x v e)⟩, F.cells, F.inj, F.cellIn⟩
theorem comp_frame {h : Heap} {ow : Addr → Prop} {R : Rw} {scope : Scope} {free : List String} {C : Addr} {oC : Obj} (O : CompOK env scope free) (hb : ∀ y ∈ free, (fr y).isSome) (F : FrOK c h ow R env fr) (hC : R C = none) (nC : NsO oC fun _ => none) :
    (∀ x, (x, NameKind.free) ∈ scope.names → ∃ a, env.cells.lookup x = some a) ∧ FrOK c h ow (upd R C oC) (compEnvC scope (closGo env scope.names []) C env) (capt free fr) := by
  obtain ⟨oL, m, l1, l2, l3⟩ := F.loc
  have cellsOf : ∀ y ∈ free, ∃ rv a o v, fr y = some v ∧ RelV c h ow v rv ∧ env.cells.lookup (S y) = some a ∧ R a = some o ∧ o.data = .cell (some rv) := by
    intro y hy
    obtain ⟨v, hv⟩ := Option.isSome_iff_exists.mp (hb y hy)
    obtain ⟨rv, r1, r2⟩ := l3 y v hv
    rcases r2 with ⟨z1, _⟩ | ⟨z1, a, o, z2, z3, z4⟩
    · rcases (O.fr2 y hy).2.2 with w | w <;> rw [w] at z1 <;> cases z1
    · exact ⟨rv, a, o, v, hv, r1, z2, z3, z4⟩
  have all : ∀ x, (x, NameKind.free) ∈ scope.names → ∃ a, env.cells.lookup x = some a := fun x hx => by
    obtain ⟨y, hy, rfl⟩ := O.fr1 x hx
    obtain ⟨rv, a, o, v, _, _, z, _⟩ := cellsOf y hy
    exact ⟨a, z⟩
  have sub : ∀ X a, (closGo env scope.names []).lookup X = some a → env.cells.lookup X = some a := fun X a e => by
    rcases closGo_lookup all e with z | z
    · simp at z
    · exact z.1
  refine ⟨all, ⟨O.kind, F.gl, F.bl, ⟨oC, _, by simp [upd_same, compEnvC], nC, fun x v e => ?_⟩, fun X a e => ?_, fun X Y a e1 e2 => F.inj X Y a (sub _ _ e1) (sub _ _ e2), fun X e => ?_⟩⟩
  · unfold capt at e
    split at e
    · rename_i hx
      obtain ⟨rv, a, o, v', h1, h2, h3, h4, h5⟩ := cellsOf x hx
      rw [e] at h1; cases h1
      have hne : a ≠ C := fun q => by rw [q, hC] at h4; cases h4
      refine ⟨rv, h2, .inr ⟨?_, a, o, closGo_keep h3 (.inr (O.fr2 x hx).1), by rw [upd_ne _ _ hne]; exact h4, h5⟩⟩
      have := lookup_relabel (env := env) (O.fr2 x hx).2.1
      show (relabel scope env).names.lookup (S x) = _ ∨ (relabel scope env).names.lookup (S x) = _
      unfold relabel
      dsimp only
      rw [this]
      split
      · exact .inl rfl
      · exact .inr rfl
    · cases e
  · obtain ⟨p, o, v₀, q, r⟩ := F.cells X a (sub _ _ e)
    have hne : a ≠ C := fun z => by rw [z, hC] at q; cases q
    exact ⟨hne, o, v₀, by rw [upd_ne _ _ hne]; exact q, r⟩
  · have e' : (relabel scope env).names.lookup X = some .cell := e
    unfold relabel at e'
    dsimp only at e'
    cases hk : scope.names.lookup X with
    | none =>
      exfalso
      have : ∀ (l : List (Str × NameKind)), l.lookup X = none → (l.map fun (n, k) => if (k == NameKind.free && env.scope.kind == .function && env.kindOf n == some .cell) then (n, NameKind.cell) else (n, k)).lookup X = none := by
        intro l
        induction l with
        | nil => intro _; rfl
        | cons p r ih =>
          obtain ⟨y, k'⟩ := p
          intro h
          by_cases q : X = y
          · subst q; simp at h
          · have q' : (X == y) = false := by simpa using q
            simp only [List.lookup_cons, q'] at h
            simp only [List.map_cons]
            split <;> (simp only [List.lookup_cons, q']; exact ih h)
      rw [this _ hk] at e'; cases e'
    | some kd =>
      rw [lookup_relabel hk] at e'
      have mem : (X, kd) ∈ scope.names := by
        have : ∀ (l : List (Str × NameKind)), l.lookup X = some kd → (X, kd) ∈ l := by
          intro l
          induction l with
          | nil => intro h; simp at h
          | cons p r ih =>
            obtain ⟨y, k'⟩ := p
            intro h
            by_cases q : X = y
            · subst q; simp at h; subst h; exact .head _
            · have q' : (X == y) = false := by simpa using q
              simp only [List.lookup_cons, q'] at h
              exact .tail _ (ih h)
        exact this _ hk
      have hfree : kd = .free := by
        split at e'
        · rename_i z
          simp only [Bool.and_eq_true, beq_iff_eq] at z
          exact z.1.1
        · cases e'; exact absurd rfl (O.cell _ mem)
      subst hfree
      obtain ⟨a, ha⟩ := all X mem
      exact ⟨a, closGo_keep ha (.inr mem)⟩
end
end PyW
namespace PyW
section
variable {c : Cx} {n : Nat} {env : Env} {fr : Fm} {σ : Sg} {pos : Pos} {k : Nat}
/-! ### targets that store names of the frame alone -/
structure Fr2L (env : Env) (R R' : Rw) : Prop where
  off : ∀ a, a ≠ env.locals → R' a = R a
  dom : ∀ a, R' a = none ↔ R a = none
theorem Fr2L.trans {env : Env} {R R' R'' : Rw} (x : Fr2L env R R') (y : Fr2L env R' R'') : Fr2L env R R'' := ⟨fun a n => (y.off a n).trans (x.off a n), fun a => (y.dom a).trans (x.dom a)⟩
noncomputable def PostFL (c : Cx) (σ : Sg) (R : Rw) (env : Env) (s : Shared) (P : Fm → Sg → Prop) (s' : Shared) : Prop :=
  ∃ h' tk σ' R' fr', s' = { s with heap := h', toks := tk } ∧ Inv c h' σ' R' ∧ Ext s.heap (own σ R) h' (own σ' R') ∧ Fr2L env R R' ∧ FrOK c h' (own σ' R') R' env fr' ∧ P fr' σ'
noncomputable def SemTL (c : Cx) (n : Nat) (env : Env) (t : Expr) (v : V) (fr : Fm) (σ : Sg) (Q : Fm → Sg → Prop) : Prop :=
  ∀ A s R rv, Room n A → Inv c s.heap σ R → FrOK c s.heap (own σ R) R env fr → RelV c s.heap (own σ R) v rv → wpAny (model c.prog c.w) A (assign t env rv) (fun _ s' => PostFL c σ R env s Q s') (fun _ _ => False) s
theorem storeL_ok {A : Around} {s : Shared} {R : Rw} {Q : Fm → Sg → Prop} {x : String} {v : V} {rv : Value} (I : Inv c s.heap σ R) (F : FrOK c s.heap (own σ R) R env fr) (r : RelV c s.heap (own σ R) v rv)
    (hk : env.kindOf (S x) = some .local) (q : Q (upd fr x v) σ) :
    wpAny (model c.prog c.w) A (storeName env (S x) rv) (fun _ s' => PostFL c σ R env s Q s') (fun _ _ => False) s := by
  obtain ⟨oL, m, l1, l2, l3⟩ := F.loc
  refine wpAny_storeName_local hk (l2.ns (I.raw _ _ l1)) (fun h' hn hs => ?_) (by rw [F.kind]; rfl)
  obtain ⟨o', e', n'⟩ := NsO.of hn
  have keep : ∀ b, b ≠ env.locals → ∀ o, s.heap.get? b = some o → h'.get? b = some o := fun b hb o e => hs.extBut b o hb e
  obtain ⟨I', X⟩ := I.rawSet l1 keep e'
  refine ⟨h', _, σ, upd R env.locals o', upd fr x v, rfl, I', X, ⟨fun a na => upd_ne _ _ na, (fr2_upd (.inl rfl) l1).dom⟩, ⟨F.kind, F.gl, F.bl, ⟨o', _, by simp [upd_same], n', fun y w e => ?_⟩, fun Y a e => ?_, F.inj, F.cellIn⟩, q⟩
  · unfold upd at e
    split at e
    · rename_i q; subst q; cases e; exact ⟨rv, r.ext X, .inl ⟨hk, by simp⟩⟩
    · rename_i q
      obtain ⟨rw', r1, r2⟩ := l3 y w e
      refine ⟨rw', r1.ext X, ?_⟩
      rcases r2 with ⟨z1, z2⟩ | ⟨z1, a, o, z2, z3, z4⟩
      · refine .inl ⟨z1, ?_⟩
        have : ¬ S y = S x := fun w => q (S_inj w)
        simp only [this, if_false]; exact z2
      · exact .inr ⟨z1, a, o, z2, by rw [upd_ne _ _ (F.cells _ _ z2).1]; exact z3, z4⟩
  · obtain ⟨h1, o, v₀, h2, h3⟩ := F.cells Y a e
    exact ⟨h1, o, v₀, by rw [upd_ne _ _ h1]; exact h2, h3⟩
theorem semTL_name {Q : Fm → Sg → Prop} {x : String} {v : V} (hk : env.kindOf (S x) = some .local) (q : Q (upd fr x v) σ) : SemTL c n env (.Name (S x) pos) v fr σ Q :=
  fun A s R rv hR I F r => wpAny_assign_Name (storeL_ok I F r hk q)
noncomputable def SemTLs (c : Cx) (n : Nat) (env : Env) : List Expr → List V → Fm → Sg → (Fm → Sg → Prop) → Prop
  | [], [], fr, σ, Q => Q fr σ
  | t :: ts, v :: vs, fr, σ, Q => SemTL c n env t v fr σ fun fr' σ' => SemTLs c n env ts vs fr' σ' Q
  | _, _, _, _, _ => False
theorem assignInOrderL_ok {Q : Fm → Sg → Prop} : ∀ {ts : List Expr} {vs : List V} {fr : Fm} {σ : Sg} {A : Around} {s : Shared} {R : Rw} {rs : List Value}, (∀ t ∈ ts, notStar t = true) → SemTLs c n env ts vs fr σ Q → Room n A → Inv c s.heap σ R →
    FrOK c s.heap (own σ R) R env fr → RelVs c s.heap (own σ R) vs rs → wpAny (model c.prog c.w) A (assignInOrder ((assignEach ts env).map (·.2)) rs) (fun _ s' => PostFL c σ R env s Q s') (fun _ _ => False) s
  | [], [], fr, σ, A, s, R, [], _, h, _, I, F, _ => wpAny_pure ⟨s.heap, s.toks, σ, R, fr, rfl, I, Ext.refl _ _, ⟨fun _ _ => rfl, fun _ => Iff.rfl⟩, F, h⟩
  | t :: ts, v :: vs, fr, σ, A, s, R, r :: rs, hs, h, hR, I, F, rel => by
    simp only [RelVs] at rel
    rw [assignEach_cons (hs t (.head _))]
    show wpAny _ _ (do holding rs (assign t env r); assignInOrder ((assignEach ts env).map (·.2)) rs) _ _ s
    refine wpAny_bind (wpAny_holding (sumMono (h A s R r hR I F rel.1) fun _ s₁ p => ?_))
    obtain ⟨h₁, t₁, σ₁, R₁, fr₁, rfl, I₁, X₁, Y₁, F₁, q⟩ := p
    refine sumMono (assignInOrderL_ok (s := { s with heap := h₁, toks := t₁ }) (fun x hx => hs x (.tail _ hx)) q hR I₁ F₁ (rel.2.ext X₁)) fun _ s₂ p => ?_
    obtain ⟨h₂, t₂, σ₂, R₂, fr₂, rfl, I₂, X₂, Y₂, F₂, q⟩ := p
    exact ⟨h₂, t₂, σ₂, R₂, fr₂, rfl, I₂, X₁.trans X₂, Y₁.trans Y₂, F₂, q⟩
  | [], _ :: _, _, _, _, _, _, _, _, h, _, _, _, _ => h.elim
  | _ :: _, [], _, _, _, _, _, _, _, h, _, _, _, _ => h.elim
  | [], [], _, _, _, _, _, _ :: _, _, _, _, _, _, r => by simp [RelVs] at r
  | _ :: _, _ :: _, _, _, _, _, _, [], _, _, _, _, _, r => by simp [RelVs] at r
theorem semTL_tup {Q : Fm → Sg → Prop} {ts : List Expr} {vs : List V} (hs : ∀ t ∈ ts, notStar t = true) (hl : ts.length = vs.length) (h : SemTLs c n env ts vs fr σ Q) : SemTL c n env (.Tuple ts k pos) (.tup vs) fr σ Q := by
  intro A s R rv hR I F r
  simp only [RelV] at r
  obtain ⟨a, arr, m, rfl, h1, h2, h3, h4⟩ := r
  have e1 := h4.length
  obtain ⟨e2, e3⟩ := assignEach_len (env := env) hs
  simp only [Array.length_toList] at e1
  refine wpAny_assign_Tuple hR.1 ⟨_, h1, rfl, m, rfl⟩ (by omega) e3 fun h' hx => ?_
  have keep : ∀ b o, s.heap.get? b = some o → h'.get? b = some o := fun b o e => hx b o (Nat.ne_of_lt (Heap.lt_size e)) e
  have X : Ext s.heap (own σ R) h' (own σ R) := Ext.keeps keep
  refine sumMono (assignInOrderL_ok (s := { s with heap := h' }) hs h hR (I.keeps keep) (F.ext X) (h4.ext X)) fun _ s₂ p => ?_
  obtain ⟨h₂, t₂, σ₂, R₂, fr₂, rfl, I₂, X₂, Y₂, F₂, q⟩ := p
  exact ⟨h₂, t₂, σ₂, R₂, fr₂, rfl, I₂, X.trans X₂, Y₂, F₂, q⟩
/-- the tests of a comprehension, one after the other -/
theorem tests_false {A : Around} {s : Shared} {Q : Bool → Shared → Prop} {E : Value → Shared → Prop} (h : Q false s) : ∀ ifs : List Expr,
    wpAny (model c.prog c.w) A (forIn ifs false fun c r => if r = true then do let ok ← isTrue c env (eval c env); pure (ForInStep.yield ok) else pure (ForInStep.yield r)) Q E s
  | [] => wpAny_pure h
  | _ :: r => by
    rw [List.forIn_cons]
    exact wpAny_bind (wpAny_ite_false (by simp) (wpAny_pure (tests_false h r)))
theorem tests_ok : ∀ {ifs : List Expr} {fr : Fm} {σ : Sg} {Q : Bool → Sg → Prop} (h : SemAll c n env true ifs fr σ Q) (A : Around) (s : Shared) (R : Rw), Room n A → Inv c s.heap σ R → FrOK c s.heap (own σ R) R env fr →
    wpAny (model c.prog c.w) A (forIn ifs true fun c r => if r = true then do let ok ← isTrue c env (eval c env); pure (ForInStep.yield ok) else pure (ForInStep.yield r)) (PostG c σ R s (PB Q)) (fun _ _ => False) s
  | [], fr, σ, Q, h, A, s, R, hR, I, F => wpAny_pure ⟨s.heap, s.toks, σ, rfl, I, Ext.refl _ _, h⟩
  | e :: es, fr, σ, Q, h, A, s, R, hR, I, F => by
    unfold SemAll at h
    rw [List.forIn_cons]
    refine wpAny_bind (wpAny_ite_true (by simp) (wpAny_bind (PostG.then (β := Bool) (h A s R hR I F) fun b h₂ t₂ σ₂ I₂ X₂ q₂ => wpAny_pure ?_)))
    dsimp only [PB] at q₂
    cases b with
    | true =>
      rw [if_pos rfl] at q₂
      exact PostG.transW (s := s) (t₁ := t₂) X₂ (tests_ok q₂ A { s with heap := h₂, toks := t₂ } R hR I₂ (F.ext X₂))
    | false =>
      rw [if_neg (by simp)] at q₂
      exact tests_false ⟨h₂, t₂, σ₂, rfl, I₂, X₂, q₂⟩ es
/-- the turns of a comprehension with one for -/
noncomputable def SemCL (c : Cx) (n : Nat) (cenv : Env) (target : Expr) (ifs : List Expr) (elt : Expr) (fr : Fm) : List V → List V → Sg → (List V → Sg → Prop) → Prop
  | [], acc, σ, Q => Q acc σ
  | x :: xs, acc, σ, Q => SemTL c n cenv target x fr σ fun fr₁ σ₁ => (∀ y v, fr y = some v → fr₁ y = some v) ∧ SemAll c n cenv true ifs fr₁ σ₁ fun b σ₂ => if b = true then SemE c n cenv elt fr₁ σ₂ fun v σ₃ => SemCL c n cenv target ifs elt fr xs (acc ++ [v]) σ₃ Q
    else SemCL c n cenv target ifs elt fr xs acc σ₂ Q
theorem append_plain {A : Around} {s : Shared} {l : Addr} {arr : Array Value} {m : Nat} {x : Value} {Q : Value → Shared → Prop} {E : Value → Shared → Prop} (hl : s.heap.get? l = some { cls := .type "list", data := .seq arr m })
    (hQ : ∀ h' m', h'.get? l = some { cls := .type "list", data := .seq (arr.push x) m' } → Heap.SameBut l s.heap h' → Q .none { s with heap := h' }) (hz : arr.size ≤ sizeLine) :
    wpAny (model c.prog c.w) A (call (.builtin "list.append") [.ref l, x]) Q E s :=
  wpAny_list_append_plain ⟨m, hl⟩ (fun h' ⟨m', e⟩ hs => hQ h' m' e hs) hz
/-- what holds ahead of a turn -/
noncomputable def CLInv (c : Cx) (n : Nat) (cenv : Env) (target : Expr) (ifs : List Expr) (elt : Expr) (frc : Fm) (xs : List V) (wr : List Addr) (St : Nat → Heap → (Addr → Prop) → Prop) (D : Addr) (s : Shared) (σ₁ : Sg) (R₁ : Rw) (Q : List V → Sg → Prop) (m : Nat) (s' : Shared) : Prop :=
  ∃ i h' tk σ' R' arr ep acc, s' = { s with heap := h', toks := tk } ∧ i ≤ xs.length ∧ m = xs.length + 1 - i ∧ Inv c h' σ' R' ∧ Ext s.heap (own σ₁ R₁) h' (own σ' R') ∧ (∀ a ∈ wr, R' a ≠ none) ∧ St i h' (own σ' R') ∧
      (∀ a, a ∉ wr → a ≠ cenv.locals → a ≠ D → R' a = R₁ a) ∧ (∀ a, a ∉ wr → (R' a = none ↔ R₁ a = none)) ∧ FrOK c h' (own σ' R') R' cenv frc ∧ R' D = some { cls := .type "list", data := .seq arr ep } ∧ arr.size ≤ i ∧ RelVs c h' (own σ' R') acc arr.toList ∧
      SemCL c n cenv target ifs elt frc (xs.drop i) acc σ' Q
theorem comp_loop {A : Around} {s : Shared} {Q : List V → Sg → Prop} {elt target iter : Expr} {ifs : List Expr} {scope : Scope} {cpos : Pos} {cenv : Env} {frc : Fm} {xs : List V} {it : Value} {wr : List Addr} {St : Nat → Heap → (Addr → Prop) → Prop} {D : Addr} {σ₁ : Sg} {R₁ : Rw} {m₁ : Nat} {RR : Result → Shared → Prop}
    {z : Bool} (hR : Room n A) (W : Stp c A z it wr xs St) (ztt : z = true → isTupT target = true) (hz : xs.length ≤ sizeLine) (hwf : ∀ a ∈ wr, ¬ frAddr cenv a) (hD : D ∉ wr) (hDf : ¬ frAddr cenv D)
    (I₁ : Inv c s.heap σ₁ R₁) (hw : ∀ a ∈ wr, R₁ a ≠ none) (st : St 0 s.heap (own σ₁ R₁)) (F₁ : FrOK c s.heap (own σ₁ R₁) R₁ cenv frc) (hRD : R₁ D = some { cls := .type "list", data := .seq #[] m₁ })
    (h : SemCL c n cenv target ifs elt frc xs [] σ₁ Q)
    (fin : ∀ h₅ t₅ σ₅ R₅ arr m acc, Inv c h₅ σ₅ R₅ → Ext s.heap (own σ₁ R₁) h₅ (own σ₅ R₅) → (∀ a, a ∉ wr → a ≠ cenv.locals → a ≠ D → R₅ a = R₁ a) → (∀ a, a ∉ wr → (R₅ a = none ↔ R₁ a = none)) → (∀ a ∈ wr, R₅ a = none) → FrOK c h₅ (own σ₅ R₅) R₅ cenv frc →
      R₅ D = some { cls := .type "list", data := .seq arr m } → arr.size ≤ xs.length → RelVs c h₅ (own σ₅ R₅) acc arr.toList → Q acc σ₅ → RR (.ok .next) { s with heap := h₅, toks := t₅ }) :
    codeAny (model c.prog c.w) A (.compLoop (.ListComp elt [⟨target, iter, ifs, 0⟩] scope cpos) 0 it (.ref D) cenv) RR s := by
  refine codeAny_loop rfl (CLInv c n cenv target ifs elt frc xs wr St D s σ₁ R₁ Q) ?_ (xs.length + 1) ?_
  · rintro m s' ⟨i, h', tk, σ', R', arr, ep, acc, rfl, hi, rfl, I', X', hw2, st', off', dom', F', hD', ha, rel, sc⟩
    show wpAny _ A ((compTurn (.ListComp elt [⟨target, iter, ifs, 0⟩] scope cpos) 0 it (.ref D) cenv).onRaise (fun x => do noteFrame x cenv; theTreesLotGoes x)) _ _ _
    refine wpAny_noted ?_
    rw [compTurn_list]
    refine wpAny_bind (wpAny_standAt (wpAny_bind ?_))
    -- one turn's end
    have next : ∀ (h₅ : Heap) (t₅ : Nat) (σ₅ : Sg) (R₅ : Rw) (arr₅ : Array Value) (ep₅ : Nat) (acc₅ : List V), i < xs.length → Inv c h₅ σ₅ R₅ → Ext s.heap (own σ₁ R₁) h₅ (own σ₅ R₅) → (∀ a ∈ wr, R₅ a ≠ none) → St (i + 1) h₅ (own σ₅ R₅) →
        (∀ a, a ∉ wr → a ≠ cenv.locals → a ≠ D → R₅ a = R₁ a) → (∀ a, a ∉ wr → (R₅ a = none ↔ R₁ a = none)) → FrOK c h₅ (own σ₅ R₅) R₅ cenv frc → R₅ D = some { cls := .type "list", data := .seq arr₅ ep₅ } → arr₅.size ≤ i + 1 → RelVs c h₅ (own σ₅ R₅) acc₅ arr₅.toList →
        SemCL c n cenv target ifs elt frc (xs.drop (i + 1)) acc₅ σ₅ Q →
        ∃ m, m < xs.length + 1 - i ∧ CLInv c n cenv target ifs elt frc xs wr St D s σ₁ R₁ Q m { s with heap := h₅, toks := t₅ } := by
      intro h₅ t₅ σ₅ R₅ arr₅ ep₅ acc₅ hlt a1 a2 a3 a4 a5 a6 a7 a8 a9 a10 a11
      exact ⟨xs.length + 1 - (i + 1), by omega, i + 1, h₅, t₅, σ₅, R₅, arr₅, ep₅, acc₅, rfl, hlt, rfl, a1, a2, a3, a4, a5, a6, a7, a8, a9, a10, a11⟩
    by_cases hlt : i < xs.length
    · have hv : xs[i]? = some xs[i] := List.getElem?_eq_getElem hlt
      rw [List.drop_eq_getElem_cons hlt] at sc
      unfold SemCL at sc
      refine sumMono (W.item i { s with heap := h', toks := tk } σ' R' xs[i] target (fun rv s₂ => wpAny (model c.prog c.w) A (do
          assign target cenv rv
          let ok ← forIn ifs true fun (t : Expr) r => if r = true then do let ok ← isTrue t cenv (eval t cenv); pure (ForInStep.yield ok) else pure (ForInStep.yield r)
          if ok then
            (do let _ ← call (.builtin "list.append") [.ref D, ← eval elt cenv])
          PySem.again (.compLoop (.ListComp elt [⟨target, iter, ifs, 0⟩] scope cpos) 0 it (.ref D) cenv)) (fun (fn : PySem.Fin) (s' : Shared) => match fn with
            | PySem.Fin.done f => False
            | PySem.Fin.again c' => c' = (.compLoop (.ListComp elt [⟨target, iter, ifs, 0⟩] scope cpos) 0 it (.ref D) cenv) ∧ ∃ m, m < xs.length + 1 - i ∧ CLInv c n cenv target ifs elt frc xs wr St D s σ₁ R₁ Q m s') (fun _ _ => False) s₂) ztt hv I' hw2 st' ?_) (fun r s₁ z => ?_)
      · intro rv h₃ t₃ R₃ off₃ hw₃ I₃ X₃ st₃ r₃
        have R₃eq : ∀ a, frAddr cenv a → R₃ a = R' a := fun a fa => off₃ a fun z => hwf a z fa
        have F₃ := (F'.ext X₃).rawMore R₃eq
        refine wpAny_bind (sumMono (sc A { s with heap := h₃, toks := t₃ } R₃ rv hR I₃ F₃ r₃) fun _ s₄ p₄ => ?_)
        obtain ⟨h₄, t₄, σ₄, R₄, fr₄, rfl, I₄, X₄, Y₄, F₄, sub, q₄⟩ := p₄
        have stay : ∀ (h₅ : Heap) (σ₅ : Sg), Inv c h₅ σ₅ R₄ → ∀ a ∈ wr, ∀ o, h₃.get? a = some o → h₅.get? a = some o := fun h₅ σ₅ I₅ a ha o e => by
          have na : a ≠ cenv.locals := fun q => hwf a ha (.inl q)
          obtain ⟨o', ho'⟩ : ∃ o', R₃ a = some o' := by
            cases z : R₃ a with
            | none => exact absurd z (hw₃ a ha)
            | some o' => exact ⟨o', rfl⟩
          have e1 := I₃.raw a o' ho'
          rw [e1] at e; cases e
          exact I₅.raw a _ (by rw [Y₄.off a na]; exact ho')
        have hw₄ : ∀ a ∈ wr, R₄ a ≠ none := fun a ha => by rw [Ne, Y₄.dom a]; exact hw₃ a ha
        have o₄ : ∀ a, a ∉ wr → a ≠ cenv.locals → a ≠ D → R₄ a = R₁ a := fun a z na nd => by rw [Y₄.off a na, off₃ a z]; exact off' a z na nd
        have d₄ : ∀ a, a ∉ wr → (R₄ a = none ↔ R₁ a = none) := fun a z => by rw [Y₄.dom a, off₃ a z]; exact dom' a z
        have D₄ : R₄ D = some { cls := .type "list", data := .seq arr ep } := by rw [Y₄.off D (fun q => hDf (.inl q)), off₃ D hD]; exact hD'
        refine wpAny_bind (PostG.then (β := PySem.Fin) (tests_ok q₄ A { s with heap := h₄, toks := t₄ } R₄ hR I₄ F₄) fun b h₅ t₅ σ₅ I₅ X₅ q₅ => ?_)
        dsimp only [PB] at q₅
        have X35 := X₃.trans (X₄.trans X₅)
        cases b with
        | false =>
          simp only [Bool.false_eq_true, if_false] at q₅ ⊢
          refine wpAny_pure ⟨rfl, next h₅ t₅ σ₅ R₄ arr ep acc hlt I₅ (X'.trans X35) hw₄ (W.frame _ _ _ _ _ st₃ (X₄.trans X₅) (stay h₅ σ₅ I₅)) o₄ d₄ ((F₄.ext X₅).weaken sub) D₄ (by omega) (rel.ext X35) q₅⟩
        | true =>
          simp only [if_true] at q₅ ⊢
          refine wpAny_bind (wpAny_bind ((q₅ A { s with heap := h₅, toks := t₅ } R₄ hR I₅ (F₄.ext X₅)).then fun rx h₆ t₆ x σ₆ I₆ X₆ x_ q₆ => wpAny_bind ?_))
          have X36 := X35.trans X₆
          refine append_plain (s := { s with heap := h₆, toks := t₆ }) (I₆.raw D _ D₄) (fun h₇ ep₇ e₇ hs₇ => ?_) (by omega)
          obtain ⟨I₇, X₇⟩ := I₆.rawSet D₄ (fun b hb o e => hs₇.extBut b o hb e) e₇
          have relx := (rel.ext (X36.trans X₇)).snoc (x_.ext X₇)
          refine wpAny_pure (wpAny_pure ⟨rfl, next h₇ t₆ σ₆ (upd R₄ D _) (arr.push rx) ep₇ (acc ++ [x]) hlt I₇ (X'.trans (X36.trans X₇)) (fun a ha => by have hne : a ≠ D := fun q => hD (q ▸ ha); rw [upd_ne _ _ hne]; exact hw₄ a ha) ?_ (fun a z na nd => by rw [upd_ne _ _ nd]; exact o₄ a z na nd)
            (fun a z => ?_) (((((F₄.ext X₅).ext X₆).weaken sub).ext X₇).rawMore fun a fa => upd_ne _ _ fun q => hDf (q ▸ fa)) (by simp [upd_same]) (by simp; omega) (by simpa using relx) q₆⟩)
          · refine W.frame _ _ _ _ _ st₃ ((X₄.trans X₅).trans (X₆.trans X₇)) fun a ha o e => ?_
            exact (hs₇.extBut a o (fun q => hD (q ▸ ha)) (stay h₆ σ₆ I₆ a ha o e))
          · by_cases z' : a = D
            · subst z'
              have z2 := d₄ a z
              rw [D₄] at z2
              simp only [upd_same]
              exact ⟨fun q => (nomatch q), fun q => by have := z2.mpr q; cases this⟩
            · rw [upd_ne _ _ z']; exact d₄ a z
      · cases r with
        | none => exact z.elim
        | some rv =>
          refine wpAny_bind (sumMono z fun _ s₂ z => sumMono z fun f s₃ z => ?_)
          cases f with
          | done f => exact z.elim
          | again c' => exact z
    · have hin : i = xs.length := by omega
      subst hin
      rw [List.drop_length] at sc
      refine sumMono (W.done { s with heap := h', toks := tk } σ' R' (fun s₁ => RR (.ok .next) s₁) I' hw2 st' ?_) (fun r s₁ z => ?_)
      · intro h₃ t₃ I₃ X₃
        refine fin h₃ t₃ σ' (rawOff wr R') arr ep acc I₃ (X'.trans X₃) (fun a z na nd => by rw [rawOff_off z]; exact off' a z na nd) (fun a z => by rw [rawOff_off z]; exact dom' a z) (fun a ha => by simp [rawOff, ha])
          ((F'.ext X₃).rawMore fun a fa => rawOff_off fun z => hwf a z fa) (by rw [rawOff_off hD]; exact hD') ha (rel.ext X₃) sc
      · obtain ⟨rfl, z⟩ := z
        exact wpAny_pure z
  · exact ⟨0, s.heap, s.toks, σ₁, R₁, #[], m₁, [], rfl, Nat.zero_le _, rfl, I₁, Ext.refl _ _, hw, st, fun _ _ _ _ => rfl, fun _ _ => Iff.rfl, F₁, hRD, Nat.le_refl _, by simp [RelVs], by simpa using h⟩
end
end PyW
namespace PyW
section
variable {c : Cx} {n : Nat} {env : Env} {fr : Fm} {σ : Sg} {pos : Pos} {k : Nat}
/-- a raw list that is owned from here on -/
theorem Inv.rawToOwn {h : Heap} {R R' : Rw} {D : Addr} {ob : Obj} {o : O} (I : Inv c h σ R) (hD : R D = some ob) (h1 : D ≠ sysModules) (ho : ObjIs c h (own σ R) o ob) (h0 : R' D = none) (hs : ∀ a o, R' a = some o → R a = some o) :
    Inv c h (upd σ D o) R' ∧ Ext h (own σ R) h (own (upd σ D o) R') := by
  have σD : σ D = none := by
    cases e : σ D with
    | none => rfl
    | some o' => have := I.disj D o' e; rw [hD] at this; cases this
  have sub : ∀ a, own (upd σ D o) R' a → own σ R a := fun a q => by
    rcases (own_upd a).mp q with q | q
    · exact q.imp id fun q => by
        cases e : R' a with
        | none => exact absurd e q
        | some o' => rw [hs a o' e]; exact fun z => nomatch z
    · subst q; exact .inr (by rw [hD]; exact fun z => nomatch z)
  have X : Ext h (own σ R) h (own (upd σ D o) R') := ⟨fun _ _ e _ => e, fun a _ _ n q => n (sub a q)⟩
  refine ⟨⟨I.base, fun b o' e q => I.baseFree b o' e (sub b q), fun b o' e => ?_, fun b o' e => I.raw b o' (hs b o' e), fun b o' e => ?_, fun b o' e => ?_, I.top⟩, X⟩
  · unfold upd at e
    split at e
    · rename_i q; subst q; cases e; exact ⟨ob, I.raw _ _ hD, ho.ext X⟩
    · obtain ⟨ob', q, r⟩ := I.objs b o' e; exact ⟨ob', q, r.ext X⟩
  · unfold upd at e
    split at e
    · rename_i q; subst q; exact h0
    · cases q : R' b with
      | none => rfl
      | some o'' => have := I.disj b o' e; rw [hs b o'' q] at this; cases this
  · unfold upd at e
    split at e
    · rename_i q; subst q; exact h1
    · exact I.lo b o' e
/-- what is done with a new list: it stands for good, or is owned -/
noncomputable def QL (isO : Bool) (Q : V → Sg → Prop) (l : List V) (σ : Sg) : Prop := if isO = true then ∀ a, σ a = none → Q (.ref a) (upd σ a (.list l)) else Q (.list l) σ
theorem comp_core {A : Around} {s s₂ : Shared} {R : Rw} {Q : V → Sg → Prop} {isO : Bool} {elt target iter : Expr} {ifs : List Expr} {scope : Scope} {cpos : Pos} {free : List String} {it : Value} {RR : Value → Addr → Result → Shared → Prop}
    (hR : Room n A) (O : CompOK env scope free) (hb : ∀ y ∈ free, (fr y).isSome) (I₀ : Inv c s.heap σ R) (F : FrOK c s.heap (own σ R) R env fr)
    (p : ItPost c A (isTupT target) σ R s (fun xs σ₁ => ∀ C, SemCL c n (compEnvC scope (closGo env scope.names []) C env) target ifs elt (capt free fr) xs [] σ₁ (QL isO Q)) it s₂)
    (fin : ∀ D C h₅ t₅ σ₅ oC v, R C = none → (∃ m, NsO oC m) → Inv c h₅ σ₅ (upd R C oC) → Ext s.heap (own σ R) h₅ (own σ₅ (upd R C oC)) → RelV c h₅ (own σ₅ (upd R C oC)) v (.ref D) → Q v σ₅ → RR (.ref D) C (.ok .next) { s with heap := h₅, toks := t₅ }) :
    wpAny (model c.prog c.w) A (newList []) (fun acc s₃ => wpAny (model c.prog c.w) A (newFunctionEnv scope env.globals (closGo env scope.names []) [] env.qual none .none (some env)) (fun cenv s₄ =>
      codeAny (model c.prog c.w) A (.compStart (.ListComp elt [⟨target, iter, ifs, 0⟩] scope cpos) 0 it acc { cenv with scope := relabel scope env }) (RR acc cenv.locals) s₄) (fun _ _ => False) s₃) (fun _ _ => False) s₂ := by
  obtain ⟨h₂, t₂, σ₂, zz, wr, xs, St, rfl, ztt, W, hw, hz, I₂, X₂, hw', st, q⟩ := p
  have apart : ∀ a ∈ wr, ¬ frAddr env a := fun a ha f => F.addr f (hw a ha)
  have F₂ := (F.ext X₂).rawMore (R' := rawOf wr h₂ R) fun a fa => rawOf_off fun z => apart a z fa
  generalize hR1 : rawOf wr h₂ R = R1 at *
  refine wpAny_newObj_type (wpAny_newFunctionEnv O.cell (by intro y hy; simp at hy) (fun h₁ hns₁ hsb₁ => ?_) O.kind)
  dsimp only at hns₁ hsb₁ ⊢
  generalize hD : h₂.objs.size = D at *
  generalize hH : h₂.push { cls := .type "list", dict := none, data := .seq ([] : List Value).toArray } = H at *
  have hHs : H.objs.size = D + 1 := by rw [← hH, Heap.size_push, hD]
  generalize hC : H.objs.size = C at *
  have DnC : D ≠ C := by rw [hHs]; exact Nat.ne_of_lt (Nat.lt_succ_self _)
  have k1 : ∀ a o, h₂.get? a = some o → H.get? a = some o := fun a o e => by rw [← hH]; exact Heap.get?_push_of_some _ e
  have k2 : ∀ a o, H.get? a = some o → h₁.get? a = some o := fun a o e => hsb₁.extBut a o (by rw [← hC]; exact Nat.ne_of_lt (Heap.lt_size e)) (Heap.get?_push_of_some _ e)
  have gD : h₂.get? D = none := by rw [← hD]; exact get_size _
  have gC : H.get? C = none := by rw [← hC]; exact get_size _
  have oD : H.get? D = some { cls := .type "list", data := .seq #[] } := by rw [← hH, ← hD]; exact Heap.get?_push_size _ rfl
  obtain ⟨oC, eC, nC⟩ := NsO.of hns₁
  have I₃ : Inv c H σ₂ (upd R1 D { cls := .type "list", data := .seq #[] }) := I₂.rawNew k1 gD oD
  have X₃ : Ext h₂ (own σ₂ R1) H (own σ₂ (upd R1 D { cls := .type "list", data := .seq #[] })) := Ext.rawNew k1 gD
  have I₄ := I₃.rawNew k2 gC eC
  have X₄ : Ext H (own σ₂ (upd R1 D { cls := .type "list", data := .seq #[] })) h₁ (own σ₂ (upd (upd R1 D { cls := .type "list", data := .seq #[] }) C oC)) := Ext.rawNew k2 gC
  have X24 := X₃.trans X₄
  have ex : ∀ a, R1 a ≠ none → ∃ o, h₂.get? a = some o := fun a e => by
    cases z : R1 a with
    | none => exact absurd z e
    | some o => exact ⟨o, I₂.raw _ _ z⟩
  have neD : ∀ a, R1 a ≠ none → a ≠ D := fun a e q => by obtain ⟨o, z⟩ := ex a e; rw [q, gD] at z; cases z
  have neC : ∀ a, R1 a ≠ none → a ≠ C := fun a e q => by obtain ⟨o, z⟩ := ex a e; have := k1 _ _ z; rw [q, gC] at this; cases this
  have R1D : R1 D = none := by
    cases z : R1 D with
    | none => rfl
    | some o => exact absurd rfl (neD D (by rw [z]; exact fun q => nomatch q))
  have R1C : R1 C = none := by
    cases z : R1 C with
    | none => rfl
    | some o => exact absurd rfl (neC C (by rw [z]; exact fun q => nomatch q))
  have R2C : upd R1 D { cls := .type "list", data := .seq #[] } C = none := by rw [upd_ne _ _ (Ne.symm DnC)]; exact R1C
  have fD : ¬ frAddr env D := fun f => F₂.addr f R1D
  have fC : ¬ frAddr env C := fun f => F₂.addr f R1C
  have F₄ : FrOK c h₁ (own σ₂ (upd (upd R1 D { cls := .type "list", data := .seq #[] }) C oC)) (upd R1 D { cls := .type "list", data := .seq #[] }) env fr :=
    (F₂.ext X24).rawMore fun a fa => upd_ne _ _ fun q => fD (q ▸ fa)
  obtain ⟨all, Fc⟩ := comp_frame O hb F₄ R2C (oC := oC) nC
  have Dw : D ∉ wr := fun z => hw' D z R1D
  have Cw : C ∉ wr := fun z => hw' C z R1C
  have cf : ∀ a, frAddr (compEnvC scope (closGo env scope.names []) C env) a → a = C ∨ frAddr env a := fun a fa => by
    rcases fa with rfl | ⟨X, e⟩
    · exact .inl rfl
    · rcases closGo_lookup all e with z | z
      · simp at z
      · exact .inr (.inr ⟨X, z.1⟩)
  have loop : ∀ s₃ : Shared, s₃ = { s with heap := h₁, toks := t₂ + ([] : List (Str × Value)).length } →
      codeAny (model c.prog c.w) A (.compLoop (.ListComp elt [⟨target, iter, ifs, 0⟩] scope cpos) 0 it (.ref D) (compEnvC scope (closGo env scope.names []) C env)) (RR (.ref D) C) s₃ := by
    rintro s₃ rfl
    refine comp_loop (Q := QL isO Q) (s := { s with heap := h₁, toks := t₂ + ([] : List (Str × Value)).length }) hR W ztt hz (fun a ha fa => ?_) Dw (fun fa => ?_) I₄ (fun a ha => ?_) ?_ Fc (D := D) (m₁ := 0) ?_ (q C) ?_
    · rcases cf a fa with z | z
      · exact Cw (z ▸ ha)
      · exact apart a ha z
    · rcases cf D fa with z | z
      · exact DnC z
      · exact fD z
    · have := hw' a ha
      rw [upd_ne _ _ (neC a this), upd_ne _ _ (neD a this)]; exact this
    · exact W.frame _ _ _ _ _ st X24 fun a ha o e => k2 _ _ (k1 _ _ e)
    · rw [upd_ne _ _ DnC]; simp [upd_same]
    · intro h₅ t₅ σ₅ R₅ arr m acc I₅ X₅ off₅ dom₅ hw₅ F₅ D₅ hsz rel₅ q₅
      obtain ⟨oC', mC, c1, c2, _⟩ := F₅.loc
      have c1 : R₅ C = some oC' := c1
      have RD : R D = none := by
        cases z : R D with
        | none => rfl
        | some o =>
          have : R1 D = R D := by rw [← hR1]; exact rawOf_off Dw
          rw [R1D, z] at this; cases this
      have RC : R C = none := by
        cases z : R C with
        | none => rfl
        | some o =>
          have : R1 C = R C := by rw [← hR1]; exact rawOf_off Cw
          rw [R1C, z] at this; cases this
      have sub : ∀ a o, upd R C oC' a = some o → R₅ a = some o := fun a o e => by
        by_cases z : a = C
        · subst z; rw [upd_same] at e; cases e; exact c1
        · rw [upd_ne _ _ z] at e
          have zD : a ≠ D := fun w => by rw [w, RD] at e; cases e
          have zw : a ∉ wr := fun w => by rw [hw a w] at e; cases e
          rw [off₅ a zw z zD, upd_ne _ _ z, upd_ne _ _ zD, ← hR1, rawOf_off zw]; exact e
      have X25 := (X₂.trans X24).trans X₅
      cases isO with
      | false =>
        simp only [QL, Bool.false_eq_true, if_false] at q₅
        have X₆ : Ext h₅ (own σ₅ R₅) h₅ (own σ₅ (upd R C oC')) := Ext.rawLess sub
        refine fin D C h₅ t₅ σ₅ oC' (.list acc) RC ⟨_, c2⟩ (I₅.rawLess sub) (X25.trans X₆) ?_ q₅
        simp only [RelV]
        refine ⟨D, arr, m, rfl, I₅.raw _ _ D₅, fun w => ?_, by omega, rel₅.ext X₆⟩
        rcases w with w | w
        · cases z : σ₅ D with
          | none => exact w z
          | some o => have := I₅.disj D o z; rw [D₅] at this; cases this
        · rw [upd_ne _ _ DnC] at w; exact w RD
      | true =>
        simp only [QL, if_true] at q₅
        obtain ⟨I₆, X₆⟩ := I₅.rawToOwn (o := .list acc) D₅ (by rw [← hD]; exact I₂.fresh1) ⟨arr, m, rfl, by omega, rel₅⟩ (by rw [upd_ne _ _ DnC]; exact RD) sub
        refine fin D C h₅ t₅ _ oC' (.ref D) RC ⟨_, c2⟩ I₆ (X25.trans X₆) (by simp [RelV]) (q₅ D ?_)
        cases z : σ₅ D with
        | none => rfl
        | some o => have := I₅.disj D o z; rw [D₅] at this; cases this
  show codeAny _ _ (.compStart _ 0 it (.ref D) (compEnvC scope (closGo env scope.names []) C env)) (RR (.ref D) C) _
  refine codeAny_compStart_list (loop _ rfl) (W.self 0 _ (own σ₂ (upd (upd R1 D { cls := .type "list", data := .seq #[] }) C oC)) _ _ ?_ (loop _ rfl))
  exact W.frame _ _ _ _ _ st X24 fun a ha o e => k2 _ _ (k1 _ _ e)
/-- a list comprehension with one for -/
theorem sem_comp {Q : V → Sg → Prop} {elt target iter : Expr} {ifs : List Expr} {scope : Scope} {cpos : Pos} (free : List String) (isO : Bool) (O : CompOK env scope free) (hb : ∀ y ∈ free, (fr y).isSome) (hs : notSet iter = true)
    (h : SemI c n env (isTupT target) iter fr σ fun xs σ₁ => ∀ C, SemCL c n (compEnvC scope (closGo env scope.names []) C env) target ifs elt (capt free fr) xs [] σ₁ (QL isO Q)) :
    SemE c n env (.ListComp elt [⟨target, iter, ifs, 0⟩] scope cpos) fr σ Q := by
  intro A s R hR I F
  have all := (comp_frame (R := R) (C := s.heap.objs.size) (oC := ⟨.type "dict", none, .dict #[] 0, #[]⟩) O hb F ?_ ?_).1
  · show wpAny _ _ _ _ _ _
    rw [eval_ListComp]
    refine wpAny_comprehension_free (use := none) rfl (folded_plain hs) (closureFor_eq all) O.kind O.nm (wpAny_mono (h A s R hR I F) (fun x s₁ h₁ => wpAny_mono h₁ (fun it s₂ p => ?_) fun _ _ f => f) fun _ _ f => f)
    refine comp_core (RR := fun acc C => compPost (model c.prog c.w) A (fun _ _ => False) none (PostE c σ R s Q) acc C) hR O hb I F p ?_
    intro D C h₅ t₅ σ₅ oC v hC ⟨m, nC⟩ I₅ X₅ r q
    refine ⟨m, nC.ns (I₅.raw C oC (by simp [upd_same])), fun h' hs' => ?_⟩
    obtain ⟨I₆, X₆⟩ := I₅.rawDrop (h' := h') [C] (fun a ha => by rw [List.mem_singleton.mp ha]; simp [upd_same]) (fun b o nb e => hs'.extBut b o (fun q => nb (by rw [q]; simp)) e)
    have e : rawOff [C] (upd R C oC) = R := by
      funext a; unfold rawOff upd
      by_cases z : a = C
      · subst z; simp [hC]
      · simp [z]
    rw [e] at I₆ X₆
    exact ⟨h', t₅, v, σ₅, rfl, I₆, X₅.trans X₆, r.ext X₆, q⟩
  · exact raw_none I
  · exact ⟨#[], 0, rfl, by intro x hx; simp at hx, fun x => rfl⟩
/-- a list comprehension whose value goes to a name on its own line -/
theorem semS_assignComp {Q : Fl → Fm → Sg → Prop} {x : String} {p' : Pos} {elt target iter : Expr} {ifs : List Expr} {scope : Scope} {cpos : Pos} (free : List String) (isO : Bool) (O : CompOK env scope free) (hb : ∀ y ∈ free, (fr y).isSome) (hs : notSet iter = true)
    (hk : env.kindOf (S x) = some .local)
    (h : SemI c n env (isTupT target) iter fr σ fun xs σ₁ => ∀ C, SemCL c n (compEnvC scope (closGo env scope.names []) C env) target ifs elt (capt free fr) xs [] σ₁ (QL isO fun v σ₂ => Q .next (upd fr x v) σ₂))
    (hsw : swapsWith (.ListComp elt [⟨target, iter, ifs, 0⟩] scope cpos) (some (.Name (S x) p')) pos.line env = pure true) :
    SemS c n env (.Assign [.Name (S x) p'] (.ListComp elt [⟨target, iter, ifs, 0⟩] scope cpos) pos) fr σ Q := by
  intro A s R hR I F
  have all := (comp_frame (R := R) (C := s.heap.objs.size) (oC := ⟨.type "dict", none, .dict #[] 0, #[]⟩) O hb F ?_ ?_).1
  · rw [exec_Assign_Name_used _ _ _ _ hsw]
    refine wpAny_bind (wpAny_standAt (wpAny_bind ?_))
    show wpAny _ A (do let _ ← comprehension (.ListComp elt [⟨target, iter, ifs, 0⟩] scope cpos) scope env _ (newList []) false (eval iter env) (some (assign (.Name (S x) p') env))) _ _ s
    refine wpAny_bind (wpAny_mono (wpAny_comprehension_free (use := some (assign (.Name (S x) p') env)) (Q := fun _ s' => PostF c σ R env s (PS c Q) .next s') rfl (folded_plain hs) (closureFor_eq all) O.kind O.nm
      (wpAny_mono (h A s R hR I F) (fun xv s₁ h₁ => wpAny_mono h₁ (fun it s₂ p => ?_) fun _ _ f => f) fun _ _ f => f)) (fun _ s' hq => wpAny_pure (wpAny_pure hq)) fun _ _ f => f)
    refine comp_core (RR := fun acc C => compPost (model c.prog c.w) A (fun _ _ => False) (some (assign (.Name (S x) p') env)) (fun _ s' => PostF c σ R env s (PS c Q) .next s') acc C) hR O hb I F p ?_
    intro D C h₅ t₅ σ₅ oC v hC ⟨m, nC⟩ I₅ X₅ r q
    have fC : ¬ frAddr env C := fun f => F.addr f hC
    have F₅ : FrOK c h₅ (own σ₅ (upd R C oC)) (upd R C oC) env fr := (F.ext X₅).rawMore fun a fa => upd_ne _ _ fun q => fC (q ▸ fa)
    show wpAny _ A (assign (.Name (S x) p') env (.ref D)) _ _ _
    refine PostF.then (semT_name (c := c) (n := n) (Q := fun f s' => Q .next f s') (.inl hk) q A { s with heap := h₅, toks := t₅ } (upd R C oC) (.ref D) hR I₅ F₅ r) fun _ h₆ t₆ σ₆ R₆ fr₆ I₆ X₆ Y₆ F₆ q₆ => ?_
    have R6C : R₆ C = some oC := by rw [Y₆.off C fC]; simp [upd_same]
    refine ⟨m, nC.ns (I₆.raw C oC R6C), fun h' hs' => ?_⟩
    obtain ⟨I₇, X₇⟩ := I₆.rawDrop (h' := h') [C] (fun a ha => by rw [List.mem_singleton.mp ha, R6C]; exact fun z => nomatch z) (fun b o nb e => hs'.extBut b o (fun q => nb (by rw [q]; simp)) e)
    refine ⟨h', t₆, σ₆, _, fr₆, rfl, I₇, (X₅.trans X₆).trans X₇, ⟨fun a na => ?_, fun a => ?_⟩, (F₆.ext X₇).rawMore fun a fa => rawOff_off fun z => fC (List.mem_singleton.mp z ▸ fa), .next, rfl, q₆⟩
    · by_cases z : a = C
      · subst z; simp [rawOff, hC]
      · rw [rawOff_off (by simpa using z), Y₆.off a na, upd_ne _ _ z]
    · by_cases z : a = C
      · subst z; simp [rawOff, hC]
      · rw [rawOff_off (by simpa using z), Y₆.dom a, upd_ne _ _ z]
  · exact raw_none I
  · exact ⟨#[], 0, rfl, by intro x hx; simp at hx, fun x => rfl⟩
end
end PyW
namespace PyW
/-! ### built-in functions -/
noncomputable def allInts : List V → Option (List Int)
  | [] => some []
  | .int i :: l => (allInts l).map (i :: ·)
  | _ :: _ => none
theorem allInts_map : ∀ (ns : List Int), allInts (ns.map .int) = some ns
  | [] => rfl
  | n :: ns => by simp [allInts, allInts_map ns]
theorem allInts_eq : ∀ {l : List V} {ns : List Int}, allInts l = some ns → l = ns.map .int
  | [], ns, h => by simp only [allInts, Option.some.injEq] at h; subst h; rfl
  | v :: l, ns, h => by
    cases v <;> simp only [allInts, reduceCtorEq] at h
    rename_i i
    cases e : allInts l with
    | none => rw [e] at h; cases h
    | some m => rw [e] at h; simp only [Option.map_some, Option.some.injEq] at h; subst h; simp [allInts_eq e]
theorem ints_are {c : Cx} {h : Heap} {ow : Addr → Prop} : ∀ {ns : List Int} {rs : List Value}, RelVs c h ow (ns.map .int) rs → IntsAre rs ns
  | [], [], _ => .nil
  | n :: ns, r :: rs, e => by
    simp only [List.map_cons, RelVs, RelV] at e
    obtain ⟨⟨t, rfl⟩, e⟩ := e
    exact .cons n t (ints_are e)
  | [], _ :: _, e => by simp [RelVs] at e
  | _ :: _, [], e => by simp [RelVs] at e
theorem ints_rel {c : Cx} {h : Heap} {ow : Addr → Prop} {ns : List Int} {rs : List Value} (e : IntsAre rs ns) : RelVs c h ow (ns.map V.int) rs := by
  induction e with
  | nil => simp [RelVs]
  | cons n t _ ih => simp only [List.map_cons, RelVs, RelV]; exact ⟨⟨t, rfl⟩, ih⟩
theorem ints_at {ns : List Int} {rs : List Value} (e : IntsAre rs ns) : ∀ i (v : Value), rs[i]? = some v → ∃ t, v = Value.int (ns.getD i 0) t := by
  induction e with
  | nil => intro i v h; simp at h
  | cons n t _ ih =>
    intro i v h
    cases i with
    | zero => simp at h; subst h; exact ⟨t, by simp⟩
    | succ i =>
      simp at h
      obtain ⟨u, e⟩ := ih i v h
      exact ⟨u, by simpa using e⟩
theorem ints_len {ns : List Int} {rs : List Value} (h : IntsAre rs ns) : rs.length = ns.length := by
  induction h with
  | nil => rfl
  | cons n t _ ih => simp [ih]
/-- a list in order -/
noncomputable def insZ (n : Int) : List Int → List Int
  | [] => [n]
  | m :: l => if n ≤ m then n :: m :: l else m :: insZ n l
noncomputable def sortZ : List Int → List Int
  | [] => []
  | n :: l => insZ n (sortZ l)
theorem insZ_perm (n : Int) : ∀ l : List Int, (insZ n l).Perm (n :: l)
  | [] => .refl _
  | m :: l => by
    unfold insZ; split
    · exact .refl _
    · exact ((insZ_perm n l).cons m).trans (.swap n m l)
theorem sortZ_perm : ∀ l : List Int, (sortZ l).Perm l
  | [] => .refl _
  | n :: l => (insZ_perm n _).trans ((sortZ_perm l).cons n)
theorem insZ_pw (n : Int) : ∀ l : List Int, l.Pairwise (· ≤ ·) → (insZ n l).Pairwise (· ≤ ·)
  | [], _ => by simp [insZ]
  | m :: l, h => by
    unfold insZ
    rw [List.pairwise_cons] at h
    split
    · rename_i q
      rw [List.pairwise_cons]
      exact ⟨fun x hx => by rcases List.mem_cons.mp hx with rfl | hx; exact q; exact Int.le_trans q (h.1 x hx), List.pairwise_cons.mpr h⟩
    · rename_i q
      rw [List.pairwise_cons]
      refine ⟨fun x hx => ?_, insZ_pw n l h.2⟩
      rcases List.mem_cons.mp ((insZ_perm n l).mem_iff.mp hx) with rfl | hx
      · omega
      · exact h.1 x hx
theorem sortZ_pw : ∀ l : List Int, (sortZ l).Pairwise (· ≤ ·)
  | [] => .nil
  | n :: l => insZ_pw n _ (sortZ_pw l)
theorem pw_unique : ∀ {l m : List Int}, l.Perm m → l.Pairwise (· ≤ ·) → m.Pairwise (· ≤ ·) → l = m
  | [], m, p, _, _ => (p.symm.eq_nil).symm
  | a :: l, [], p, _, _ => by cases p.eq_nil
  | a :: l, b :: m, p, hl, hm => by
    have e : a = b := by
      have h1 : a ∈ b :: m := p.mem_iff.mp (.head _)
      have h2 : b ∈ a :: l := p.mem_iff.mpr (.head _)
      rw [List.pairwise_cons] at hl hm
      rcases List.mem_cons.mp h1 with h | h
      · exact h
      · rcases List.mem_cons.mp h2 with h' | h'
        · exact h'.symm
        · have := hl.1 b h'; have := hm.1 a h; omega
    subst e
    rw [pw_unique (List.Perm.cons_inv p) (List.pairwise_cons.mp hl).2 (List.pairwise_cons.mp hm).2]
noncomputable def sumZ' (l : List Int) : Int := l.sum
noncomputable def lenOf (σ : Sg) : V → Option Nat
  | .tup l => some l.length
  | .list l => some l.length
  | .ref a => match σ a with
    | some (.list l) => some l.length
    | _ => none
  | _ => none
noncomputable def asSeq (σ : Sg) : V → Option (List V)
  | .tup l => some l
  | .list l => some l
  | .ref a => match σ a with
    | some (.list l) => some l
    | _ => none
  | _ => none
/-- what may be sorted: ints alone -/
noncomputable def sortable (σ : Sg) : V → Option (List Int)
  | .list l => allInts l
  | .ref a => match σ a with
    | some (.list l) => allInts l
    | some (.dict l) => some (l.map (·.1))
    | _ => none
  | _ => none
inductive Bi where | len | sum | min | max | sorted | tuple | list (isO : Bool) | range
noncomputable def Bi.name : Bi → String | .len => "len" | .sum => "sum" | .min => "min" | .max => "max" | .sorted => "sorted" | .tuple => "tuple" | .list _ => "list" | .range => "range"
noncomputable def Bi.val : Bi → Value
  | .len => .builtin "len" | .sum => .builtin "sum" | .min => .builtin "min" | .max => .builtin "max" | .sorted => .builtin "sorted"
  | .tuple => .type "tuple" | .list _ => .type "list" | .range => .type "range"
noncomputable def wRng (vs : List V) (Q : V → Sg → Prop) (σ : Sg) : Prop := match vs with
  | [] => False
  | v :: l => match l with
    | [] => onI v fun b => Q (.rng 0 b) σ
    | w :: l => on0 l (onI v fun a => onI w fun b => Q (.rng a b) σ)
noncomputable def wBi (σ : Sg) (b : Bi) (vs : List V) (Q : V → Sg → Prop) : Prop := match b with
  | .len => on1V vs fun v => ∃ k, lenOf σ v = some k ∧ Q (.int k) σ
  | .sum => on1V vs fun v => onLs v fun l => ∃ ns, allInts l = some ns ∧ Q (.int ns.sum) σ
  | .min => on2V vs fun v w => onI v fun a => onI w fun b => Q (.int (if b < a then b else a)) σ
  | .max => on2V vs fun v w => onI v fun a => onI w fun b => Q (.int (if b > a then b else a)) σ
  | .sorted => on1V vs fun v => ∃ ns, (sortable σ v = some ns ∧ ns.length < 64) ∧ Q (.list ((sortZ ns).map .int)) σ
  | .tuple => on1V vs fun v => ∃ l, asSeq σ v = some l ∧ Q (.tup l) σ
  | .list isO => on1V vs fun v => ∃ l, asSeq σ v = some l ∧ QL isO Q l σ
  | .range => wRng vs Q σ
section
variable {c : Cx} {P : Pg} {n : Nat} {env : Env} {fr : Fm} {σ : Sg} {pos : Pos} {k : Nat}
theorem PostE.keepsInt {s : Shared} {R : Rw} {Q : V → Sg → Prop} {h' : Heap} {tk t : Nat} {i : Int} (I : Inv c s.heap σ R) (k : ∀ b o, s.heap.get? b = some o → h'.get? b = some o) (q : Q (.int i) σ) :
    PostE c σ R s Q (.int i t) { s with heap := h', toks := tk } := ⟨h', tk, .int i, σ, rfl, I.keeps k, Ext.keeps k, by simp [RelV], q⟩
/-- a new list that stands at D -/
theorem PostE.newL {s : Shared} {R : Rw} {Q : V → Sg → Prop} {h' : Heap} {tk m : Nat} {D : Addr} {l : List V} {arr : Array Value} (I : Inv c s.heap σ R) (k : ∀ b o, s.heap.get? b = some o → h'.get? b = some o) (hD : s.heap.get? D = none)
    (hg : h'.get? D = some { cls := .type "list", data := .seq arr m }) (hz : arr.size ≤ sizeLine) (r : RelVs c s.heap (own σ R) l arr.toList) (isO : Bool) (q : QL isO Q l σ) (h1 : isO = true → D ≠ sysModules) :
    PostE c σ R s Q (.ref D) { s with heap := h', toks := tk } := by
  have nD : ¬ own σ R D := fun w => by obtain ⟨o, e⟩ := I.own_get w; rw [hD] at e; cases e
  cases isO with
  | false =>
    simp only [QL, Bool.false_eq_true, if_false] at q
    refine ⟨h', tk, .list l, σ, rfl, I.keeps k, Ext.keeps k, ?_, q⟩
    simp only [RelV]
    exact ⟨D, arr, m, rfl, hg, nD, hz, r.ext (Ext.keeps k)⟩
  | true =>
    simp only [QL, if_true] at q
    refine ⟨h', tk, .ref D, _, rfl, I.ownNew (o := .list l) k hD (h1 rfl) hg ⟨arr, m, rfl, hz, r⟩, Ext.ownNew k hD, by simp [RelV], q D ?_⟩
    cases e : σ D with
    | none => rfl
    | some o => exact absurd (.inl (by rw [e]; exact fun z => nomatch z)) nD
theorem PostE.newT {s : Shared} {R : Rw} {Q : V → Sg → Prop} {h' : Heap} {tk m : Nat} {D : Addr} {l : List V} {arr : Array Value} (I : Inv c s.heap σ R) (k : ∀ b o, s.heap.get? b = some o → h'.get? b = some o) (hD : s.heap.get? D = none)
    (hg : h'.get? D = some { cls := .type "tuple", data := .seq arr m }) (hz : arr.size ≤ sizeLine) (r : RelVs c s.heap (own σ R) l arr.toList) (q : Q (.tup l) σ) :
    PostE c σ R s Q (.ref D) { s with heap := h', toks := tk } := by
  have nD : ¬ own σ R D := fun w => by obtain ⟨o, e⟩ := I.own_get w; rw [hD] at e; cases e
  refine ⟨h', tk, .tup l, σ, rfl, I.keeps k, Ext.keeps k, ?_, q⟩
  simp only [RelV]
  exact ⟨D, arr, m, rfl, hg, nD, hz, r.ext (Ext.keeps k)⟩
/-- how a sequence lies -/
theorem asSeq_rel {h : Heap} {R : Rw} {v : V} {r : Value} {l : List V} (I : Inv c h σ R) (e : asSeq σ v = some l) (rel : RelV c h (own σ R) v r) :
    ∃ a T arr m, (T = "list" ∨ T = "tuple") ∧ r = .ref a ∧ h.get? a = some { cls := .type T, data := .seq arr m } ∧ arr.size ≤ sizeLine ∧ RelVs c h (own σ R) l arr.toList ∧ (T = "tuple" → v = .tup l) := by
  unfold asSeq at e
  split at e
  · cases e
    simp only [RelV] at rel
    obtain ⟨a, arr, m, h1, h2, h3, h4, h5⟩ := rel
    exact ⟨a, "tuple", arr, m, .inr rfl, h1, h2, h4, h5, fun _ => rfl⟩
  · cases e
    simp only [RelV] at rel
    obtain ⟨a, arr, m, h1, h2, h3, h4, h5⟩ := rel
    exact ⟨a, "list", arr, m, .inl rfl, h1, h2, h4, h5, fun z => absurd z (by decide)⟩
  · split at e
    · rename_i a _ l' z
      cases e
      simp only [RelV] at rel
      obtain ⟨ob, h1, arr, m, rfl, h2, h3⟩ := I.objs _ _ z
      exact ⟨a, "list", arr, m, .inl rfl, rel, h1, h2, h3, fun z => absurd z (by decide)⟩
    · cases e
  · cases e
theorem lenOf_seq {v : V} {k : Nat} (e : lenOf σ v = some k) : ∃ l, asSeq σ v = some l ∧ l.length = k := by
  unfold lenOf at e
  split at e
  · cases e; exact ⟨_, rfl, rfl⟩
  · cases e; exact ⟨_, rfl, rfl⟩
  · split at e
    · rename_i z; cases e; exact ⟨_, by simp [asSeq, z], rfl⟩
    · cases e
  · cases e
theorem sorted_dict {A : Around} {s : Shared} {Q : Value → Shared → Prop} {E : Value → Shared → Prop} {d : Addr} {n : Nat} {P : Nat → Value → Prop} {OK : Heap → Prop} (K : KdlSrc c.prog c.w "dict" d d n P OK) (hh : A.handled = none) (hok : OK s.heap) (hn : n < 64)
    {ns : List Int} (hP : ∀ vs : List Value, vs.length = n → (∀ (j : Nat) (v : Value), vs[j]? = some v → P j v) → IntsAre vs ns)
    (h : ∀ D h' tk e out, s.heap.get? D = none → (∀ b o, s.heap.get? b = some o → h'.get? b = some o) → h'.get? D = some (seqObj "list" out e) → IntsAre out.toList (sortZ ns) → Q (.ref D) { s with heap := h', toks := tk }) :
    wpAny (model c.prog c.w) A (call (.builtin "sorted") [.ref d]) Q E s := by
  have hline : n ≤ sizeLine := by rw [sizeLine_eq]; omega
  refine call_function_entry kind_sorted plain_sorted entry_sorted (args_sorted1 _) ?_
  unfold Builtin.«sorted»
  refine wpAny_bind (m := checkCount "sorted" 1 1 _) (wpAny_pure ?_)
  refine wpAny_bind (kdu_collect (A := A.in1) K hh hok hline fun h' tk acc hk hacc => ?_)
  have hl : acc.toList.length = n := by rw [Array.length_toList]; exact hacc.1
  have hI := hP acc.toList hl fun j v e => hacc.2 j v (by rw [← Array.getElem?_toList]; exact e)
  refine wpAny_bind (wpAny_newList ?_ (by rw [hl]; exact hline))
  have hoL : (h'.push (seqObj "list" acc.toList.toArray 0)).get? h'.objs.size = some (seqObj "list" acc.toList.toArray 0) := Heap.get?_push_size _ rfl
  refine wpAny_bind (wpAny_holding (wpAny_call_entry slot_list_sort ⟨_, hoL, rfl⟩ entry_list_sort (list_sort_tree hoL hI (by omega) fun out ns' a1 a2 a3 => ⟨_, rfl, ?_⟩) (args_list_sort _)))
  have hsrt : ns' = sortZ ns := pw_unique (a2.trans (sortZ_perm ns).symm) a3 (sortZ_pw ns)
  subst hsrt
  refine wpAny_pure ⟨_, rfl, ?_⟩
  obtain ⟨e, he⟩ := sortedHeap_at (vs := acc.toList) (out := out) hoL
  refine h _ _ tk e out ?_ (fun b o z => ?_) he a1
  · cases z : s.heap.get? h'.objs.size with
    | none => rfl
    | some o => have := Heap.lt_size (hk _ _ z); exact absurd this (Nat.lt_irrefl _)
  · have hlt := Heap.lt_size (hk _ _ z)
    rw [sortedHeap_old (Nat.ne_of_lt hlt) (by rw [size_push']; exact Nat.lt_succ_of_lt hlt)]
    exact Heap.get?_push_of_some _ (hk _ _ z)
theorem pairs_ints {es : List DictEntry} {kvs : List (Int × Value)} (p : Pairs (intKind c.prog c.w) es kvs) (vs : List Value) (hl : vs.length = kvs.length) (hv : ∀ (j : Nat) (v : Value), vs[j]? = some v → ∃ k x, kvs[j]? = some (k, x) ∧ (intKind c.prog c.w).is k v = true) : IntsAre vs (kvs.map (·.1)) := by
  clear p
  induction kvs generalizing vs with
  | nil => cases vs with
    | nil => exact .nil
    | cons _ _ => simp at hl
  | cons p kvs ih => cases vs with
    | nil => simp at hl
    | cons v vs =>
      obtain ⟨k, x, h1, h2⟩ := hv 0 v (by simp)
      simp at h1; subst h1
      have h2 : Value.isInt k v = true := h2
      cases v <;> simp [Value.isInt] at h2
      subst h2
      exact .cons _ _ (ih vs (by simpa using hl) fun j u hu => by simpa using hv (j + 1) u (by simpa using hu))
end
end PyW
namespace PyW
section
variable {c : Cx} {P : Pg} {n : Nat} {env : Env} {fr : Fm} {σ : Sg} {pos : Pos} {k : Nat}
theorem rel_one {h : Heap} {ow : Addr → Prop} {v : V} {rs : List Value} (r : RelVs c h ow [v] rs) : ∃ rv, rs = [rv] ∧ RelV c h ow v rv := by
  cases rs with
  | nil => exact False.elim r
  | cons rv rs => cases rs with
    | nil => exact ⟨rv, rfl, r.1⟩
    | cons _ _ => exact False.elim r.2
theorem rel_two {h : Heap} {ow : Addr → Prop} {v w : V} {rs : List Value} (r : RelVs c h ow [v, w] rs) : ∃ rv rw, rs = [rv, rw] ∧ RelV c h ow v rv ∧ RelV c h ow w rw := by
  cases rs with
  | nil => exact False.elim r
  | cons rv rs => obtain ⟨rw, rfl, q⟩ := rel_one r.2; exact ⟨rv, rw, rfl, r.1, q⟩
theorem bi_ok (O : CxOK P c) {A : Around} {s : Shared} {R : Rw} {Q : V → Sg → Prop} {b : Bi} {vs : List V} {rs : List Value} (hR : Room n A) (I : Inv c s.heap σ R) (r : RelVs c s.heap (own σ R) vs rs) (h : wBi σ b vs Q) :
    SemV c A s σ R (call b.val rs) Q := by
  cases b with
  | len =>
    replace h := on1V_of h; obtain ⟨v, e0, h⟩ := h; subst e0
    replace r := rel_one r; obtain ⟨rv, e0, r⟩ := r; subst e0
    obtain ⟨j, h1, q⟩ := h
    obtain ⟨l, e1, rfl⟩ := lenOf_seq h1
    obtain ⟨a, T, arr, m, hT, rfl, g1, g2, g3, _⟩ := asSeq_rel I e1 r
    have len := g3.length
    simp only [Array.length_toList] at len
    have big := sizeLine_lt
    rw [len] at q
    rcases hT with rfl | rfl
    · exact call_len_list ⟨_, g1, rfl, m, rfl⟩ (by omega) (.int I q)
    · exact PyProof.Rows.len_tuple ⟨_, g1, rfl, m, rfl⟩ (by omega) (.int I q)
  | sum =>
    replace h := on1V_of h; obtain ⟨v, e0, h⟩ := h; subst e0
    replace r := rel_one r; obtain ⟨rv, e0, r⟩ := r; subst e0
    replace h := onLs_of h; obtain ⟨l, e0, h⟩ := h; subst e0
    obtain ⟨ns, e, q⟩ := h
    have := allInts_eq e; subst this
    simp only [RelV] at r
    obtain ⟨a, arr, m, rfl, g1, g2, g3, g4⟩ := r
    have hI := ints_are g4
    have len := ints_len hI
    simp only [Array.length_toList] at len
    have hne : a ≠ s.heap.objs.size := Nat.ne_of_lt (Heap.lt_size g1)
    refine call_sum_walkG (wpAny_pyIter_list ⟨_, g1, rfl, m, rfl⟩ ?_)
    refine ⟨s.heap.objs.size, [s.heap.objs.size, a], [s.heap.objs.size], arr.size, _, _, fun i => ns.getD i 0, rfl, Walks.list (A := A.in1) hR.1 _ a hne arr, ⟨⟨_, Heap.get?_push_size _ rfl, rfl, rfl⟩, ⟨_, Heap.get?_push_of_some _ g1, rfl, m, rfl⟩⟩, fun b hb => ?_, fun i v hv => ?_, fun h' tk t' hk => ?_⟩
    · show b < (s.heap.push _).objs.size
      rw [Heap.size_push]
      rcases List.mem_cons.mp hb with rfl | hb
      · exact Nat.lt_succ_self _
      · rw [List.mem_singleton.mp hb]; exact Nat.lt_succ_of_lt (Heap.lt_size g1)
    · exact ints_at hI i v (by simpa using hv)
    · rw [preSum_getD, len, List.take_length]
      exact .keepsInt I (fun b o e => hk b o (fun z => Nat.lt_irrefl _ (List.mem_singleton.mp z ▸ Heap.lt_size e)) (Heap.get?_push_of_some _ e)) q
  | min =>
      replace h := on2V_of h; obtain ⟨v, w, e0, h⟩ := h; subst e0
      replace h := onI_of h; obtain ⟨a, e0, h⟩ := h; subst e0
      replace h := onI_of h; obtain ⟨b, e0, h⟩ := h; subst e0
      obtain ⟨ra, rb, rfl, ⟨t, rfl⟩, ⟨u, rfl⟩⟩ := rel_two r
      refine min_two_ints hR.1 fun h' tk hk => ?_
      split
      · rename_i z; rw [if_pos z] at h; exact .keepsInt I hk h
      · rename_i z; rw [if_neg z] at h; exact .keepsInt I hk h
  | max =>
      replace h := on2V_of h; obtain ⟨v, w, e0, h⟩ := h; subst e0
      replace h := onI_of h; obtain ⟨a, e0, h⟩ := h; subst e0
      replace h := onI_of h; obtain ⟨b, e0, h⟩ := h; subst e0
      obtain ⟨ra, rb, rfl, ⟨t, rfl⟩, ⟨u, rfl⟩⟩ := rel_two r
      refine max_two_ints hR.1 fun h' tk hk => ?_
      split
      · rename_i z; rw [if_pos z] at h; exact .keepsInt I hk h
      · rename_i z; rw [if_neg z] at h; exact .keepsInt I hk h
  | sorted =>
    replace h := on1V_of h; obtain ⟨v, e0, h⟩ := h; subst e0
    replace r := rel_one r; obtain ⟨rv, e0, r⟩ := r; subst e0
    obtain ⟨ns, ⟨h1, h64⟩, q⟩ := h
    have fin : ∀ (D : Addr) (h' : Heap) tk e (out : Array Value), s.heap.get? D = none → (∀ b o, s.heap.get? b = some o → h'.get? b = some o) → h'.get? D = some (seqObj "list" out e) → IntsAre out.toList (sortZ ns) → PostE c σ R s Q (.ref D) { s with heap := h', toks := tk } := by
      intro D h' tk e out hD hk hg hI
      have l1 := ints_len hI
      have l2 := (sortZ_perm ns).length_eq
      simp only [Array.length_toList] at l1
      exact .newL I hk hD hg (by rw [sizeLine_eq]; omega) (ints_rel hI) false (by simpa [QL] using q) (fun q => nomatch q)
    have onList : ∀ (a : Addr) (arr : Array Value) (m : Nat) (l : List V), allInts l = some ns → s.heap.get? a = some { cls := .type "list", data := .seq arr m } → RelVs c s.heap (own σ R) l arr.toList → SemV c A s σ R (call (.builtin "sorted") [.ref a]) Q := by
      intro a arr m l e g1 g3
      have := allInts_eq e; subst this
      have hI := ints_are g3
      refine sorted_ints (vs := arr.toList) ⟨_, g1, rfl, m, by simp⟩ hI (by rw [ints_len hI]; exact h64) fun out ns' a1 a2 a3 => ?_
      have := pw_unique (a2.trans (sortZ_perm ns).symm) a3 (sortZ_pw ns); subst this
      obtain ⟨e, he⟩ := sortedAll_at s.heap arr.toList out
      refine fin _ _ s.toks e out ?_ (fun _ _ => sortedAll_old) he a1
      cases z : s.heap.get? (s.heap.objs.size + 1) with
      | none => rfl
      | some o => exact absurd (Heap.lt_size z) (Nat.not_lt.mpr (Nat.le_succ _))
    unfold sortable at h1
    split at h1
    · simp only [RelV] at r
      obtain ⟨a, arr, m, rfl, g1, g2, g3, g4⟩ := r
      exact onList a arr m _ h1 g1 g4
    · rename_i a
      simp only [RelV] at r; subst r
      split at h1
      · rename_i l e
        obtain ⟨ob, g1, arr, m, rfl, g2, g3⟩ := I.objs _ _ e
        exact onList a arr m _ h1 g1 g3
      · rename_i l e
        cases h1
        obtain ⟨ob, g1, es, m, rfl, g2, g3, g4⟩ := I.objs _ _ e
        obtain ⟨kvs, d1, d2, _⟩ := dictOf_of g1 g3 g4
        obtain ⟨ep, d3⟩ := d1.dictAt
        have lo : (a == sysModules) = false := beq_eq_false_iff_ne.mpr (I.lo _ _ e)
        have hlen : kvs.length = (l.map (·.1)).length := by rw [← d2, List.length_map]
        refine sorted_dict (ns := l.map (·.1)) (kdl_dict (knd := intKind c.prog c.w) (kvs := kvs) (ep := ep) lo) hR.1 d3 (by omega) (fun vs hl hv => ?_) fun D h' tk e out a1 a2 a3 a4 => fin D h' tk e out a1 a2 a3 a4
        rw [← d2]
        obtain ⟨_, es, _, _, _, _, _, p, _⟩ := d1
        exact pairs_ints p vs hl hv
      · cases h1
    · cases h1
  | tuple =>
    replace h := on1V_of h; obtain ⟨v, e0, h⟩ := h; subst e0
    replace r := rel_one r; obtain ⟨rv, e0, r⟩ := r; subst e0
    obtain ⟨l, e1, q⟩ := h
    obtain ⟨a, T, arr, m, hT, rfl, g1, g2, g3, g4⟩ := asSeq_rel I e1 r
    rcases hT with rfl | rfl
    · refine call_tuple_list ⟨_, g1, rfl, m, rfl⟩ (fun h' hk => ?_) g2
      refine .newT (h' := h'.push _) (m := 0) I (fun b o e => Heap.get?_push_of_some _ (hk b o e)) ?_ (Heap.get?_push_size _ rfl) g2 g3 q
      cases z : s.heap.get? h'.objs.size with
      | none => rfl
      | some o => exact absurd (Heap.lt_size (hk _ _ z)) (Nat.lt_irrefl _)
    · exact call_tuple_same ⟨_, g1, rfl, m, rfl⟩ (.here I (by rw [← g4 rfl]; exact r) q)
  | list isO =>
    replace h := on1V_of h; obtain ⟨v, e0, h⟩ := h; subst e0
    replace r := rel_one r; obtain ⟨rv, e0, r⟩ := r; subst e0
    obtain ⟨l, e1, q⟩ := h
    obtain ⟨a, T, arr, m, hT, rfl, g1, g2, g3, g4⟩ := asSeq_rel I e1 r
    refine call_list_seq a hT g1 rfl rfl (fun h' m' hk hg => ?_) g2
    exact .newL (tk := s.toks) I hk (get_size _) hg g2 g3 isO q (fun _ => I.fresh1)
  | range =>
    cases vs with
    | nil => exact False.elim h
    | cons v vs => cases vs with
      | nil =>
        replace h := onI_of h; obtain ⟨b, e0, h⟩ := h; subst e0
        obtain ⟨rb, rfl, ⟨t, rfl⟩⟩ := rel_one r
        refine call_range_1 ?_
        refine ⟨_, _, .rng 0 b, σ, rfl, I.push _, Ext.keeps fun _ _ e => Heap.get?_push_of_some _ e, ?_, h⟩
        exact ⟨_, _, _, _, rfl, IsRange.new _ _ _ _ _ _ _, I.fresh⟩
      | cons w vs =>
        replace h := on0_of h; obtain ⟨e0, h⟩ := h; subst e0
        replace h := onI_of h; obtain ⟨a, e0, h⟩ := h; subst e0
        replace h := onI_of h; obtain ⟨b, e0, h⟩ := h; subst e0
        obtain ⟨ra, rb, rfl, ⟨t, rfl⟩, ⟨u, rfl⟩⟩ := rel_two r
        refine call_range_2 ?_
        refine ⟨_, _, .rng a b, σ, rfl, I.push _, Ext.keeps fun _ _ e => Heap.get?_push_of_some _ e, ?_, h⟩
        exact ⟨_, _, _, _, rfl, IsRange.new _ _ _ _ _ _ _, I.fresh⟩
/-- where a name from outside is read -/
theorem glob_any {A : Around} {s : Shared} {x : Str} {v : Value} {Q : Value → Shared → Prop} {E : Value → Shared → Prop} {ow : Addr → Prop} {R : Rw} (O : CxOK P c) (I : Inv c s.heap σ R) (F : FrOK c s.heap ow R env fr) (hk : env.kindOf x = some .globalImplicit) (hd : (x == ("__debug__" : Str)) = false)
    (hx : c.mg x = some v ∨ (c.mg x = none ∧ c.mb x = some v)) (h : Q v s) : wpAny (model c.prog c.w) A (eval (.Name x pos) env) Q E s := by
  have hg : s.heap.Ns env.globals c.mg := by rw [F.gl]; exact O.g.keeps fun b o e => I.base b o e
  have hb : s.heap.Ns env.builtins c.mb := by rw [F.bl]; exact O.b.keeps fun b o e => I.base b o e
  refine Name_function_global F.kind hk ?_ hd
  rcases hx with hx | ⟨hx, hy⟩
  · exact loadGlobal_global hg hx h
  · exact loadGlobal_builtin hg hx hb hy h
theorem Bi.at (O : CxOK P c) (b : Bi) : c.mg (S b.name) = none ∧ c.mb (S b.name) = some b.val := by
  cases b with
  | len => exact O.bf "len" (by decide)
  | sum => exact O.bf "sum" (by decide)
  | min => exact O.bf "min" (by decide)
  | max => exact O.bf "max" (by decide)
  | sorted => exact O.bf "sorted" (by decide)
  | tuple => exact O.bt "tuple" (by decide)
  | list _ => exact O.bt "list" (by decide)
  | range => exact O.bt "range" (by decide)
theorem Bi.nd (b : Bi) : (S b.name == ("__debug__" : Str)) = false := by
  cases b with
  | len => exact S_ne (x := "len") (by decide)
  | sum => exact S_ne (x := "sum") (by decide)
  | min => exact S_ne (x := "min") (by decide)
  | max => exact S_ne (x := "max") (by decide)
  | sorted => exact S_ne (x := "sorted") (by decide)
  | tuple => exact S_ne (x := "tuple") (by decide)
  | list _ => exact S_ne (x := "list") (by decide)
  | range => exact S_ne (x := "range") (by decide)
theorem starEach_any : ∀ {es : List Expr}, (∀ e ∈ es, notStar e = true) → (backTo pos (starEach es env)).any (·.1) = false
  | [], _ => rfl
  | e :: es, h => by
    rw [starEach_cons (h e (.head _))]
    show (false || (backTo pos (starEach es env)).any (·.1)) = false
    rw [starEach_any fun x hx => h x (.tail _ hx)]; rfl
theorem sem_bi (O : CxOK P c) {Q : V → Sg → Prop} {p : Pos} {e : Expr} {es : List Expr} (b : Bi) (hk : env.kindOf (S b.name) = some .globalImplicit) (hs : ∀ x ∈ e :: es, notStar x = true)
    (h : SemL c n env pos (e :: es) fr σ fun vs σ₁ => wBi σ₁ b vs Q) : SemE c n env (.Call (.Name (S b.name) p) (e :: es) [] pos) fr σ Q := by
  intro A s R hR I F
  show wpAny _ _ _ _ _ _
  rw [arm_eval_Call_Name']
  refine wpAny_bind (glob_any O I F hk b.nd (.inr (b.at O)) ?_)
  have pl := starEach_any (pos := pos) (env := env) hs
  have core := PostG.then (β := Value) (K := fun vs s₁ => wpAny (model c.prog c.w) A (call b.val vs) (PostE c σ R s Q) (fun _ _ => False) s₁) (h A s R hR I F) fun rs h₁ t₁ σ₁ I₁ X₁ q => by
    obtain ⟨vs, r, q⟩ := q
    exact SemV.trans (s := s) (t₁ := t₁) X₁ (bi_ok O (s := { s with heap := h₁, toks := t₁ }) hR I₁ r q)
  show wpAny _ _ (callWith pos b.val [] (backTo pos (starEach (e :: es) env)) []) _ _ _
  have ea : ∀ v, wpAny (model c.prog c.w) A (evalArgs v true (backTo pos (starEach (e :: es) env)) []) (fun a s₁ => wpAny (model c.prog c.w) A (call b.val ([] ++ a.pos) a.kw) (PostE c σ R s Q) (fun _ _ => False) s₁) (fun _ _ => False) s := by
    intro v
    rw [starEach_cons (hs e (.head _))] at core ⊢
    exact evalArgs_plain core
  cases b with
  | len => exact callWith_builtin pl (ea _)
  | sum => exact callWith_builtin pl (ea _)
  | min => exact callWith_builtin pl (ea _)
  | max => exact callWith_builtin pl (ea _)
  | sorted => exact callWith_builtin pl (ea _)
  | tuple => exact PySem.callWith_type pl (ea _)
  | list _ => exact PySem.callWith_type pl (ea _)
  | range => exact PySem.callWith_type pl (ea _)
end
end PyW
namespace PyW
/-! ### methods of lists, dicts -/
section
variable {prog : Program} {w : World} {A : Around} {R : Result → Shared → Prop} {I : Addr} {fp wr : List Addr} {n : Nat} {P : Nat → Value → Prop} {St : Nat → Heap → Prop}
theorem ext_loop (W : Walks prog w A.in1 I fp wr n P St) (S : Addr) (hSf : S ∉ fp) (res : Value) :
    ∀ (k i : Nat) (s : Shared) (acc : Array Value) (c : Nat), n - i = k → i ≤ n → St i s.heap → s.heap.get? S = some { cls := .type "list", data := .seq acc c } → acc.size + k ≤ sizeLine →
    (∀ h' tk c' (ys : List Value), ys.length = k → (∀ j v, ys[j]? = some v → P (i + j) v) → (∀ b o, b ∉ wr → b ≠ S → s.heap.get? b = some o → h'.get? b = some o) → h'.get? S = some { cls := .type "list", data := .seq (acc ++ ys.toArray) c' } → R (.ok (.ret res)) { s with heap := h', toks := tk }) →
    codeAny (model prog w) A (.builtin "list.extend.loop" ⟨[.ref S, .ref I, res], []⟩) R s := by
  have hSw : S ∉ wr := fun h => hSf (W.sub _ h)
  intro k
  induction k with
  | zero =>
    intro i s acc c hk hi hst hS hz hR
    have hin : i = n := by omega
    subst hin
    refine codeAny_builtin F.entry_extend_loop ?_
    rw [Around.under_plainId F.plain_extend_loop _]
    show wpAny _ A.in1 (pyNext (.ref I) >>= _) _ _ s
    refine wpAny_bind (W.done s _ _ hst fun h' tk hm => ?_)
    exact wpAny_pure (hR h' tk c [] rfl (fun j v e => by simp at e) (fun b o hb _ e => hm b o hb e) (by simpa using hm S _ hSw hS))
  | succ k ih =>
    intro i s acc c hk hi hst hS hz hR
    have hlt : i < n := by omega
    refine codeAny_builtin F.entry_extend_loop ?_
    rw [Around.under_plainId F.plain_extend_loop _]
    show wpAny _ A.in1 (pyNext (.ref I) >>= _) _ _ s
    refine wpAny_bind (W.item i s _ _ hlt hst fun v h' tk hP hst' hm => ?_)
    have hS' := hm S _ hSw hS
    show wpAny _ A.in1 (updateSeq S (·.push v) >>= _) _ _ _
    refine wpAny_bind ?_
    refine wpAny_updateSeq hS' rfl (wpAny_pure ⟨plainId_quiet F.plain_extend_loop _, ih (i + 1) _ (acc.push v) _ (by omega) hlt (W.frame _ _ _ hst' fun b hb o e => ?_) (Heap.get?_update_self _ hS' rfl) (by rw [Array.size_push]; omega) fun h'' tk'' c' ys hl hys hk'' hS'' => ?_⟩)
      (by omega) (by show (acc.push v).size ≤ sizeLine + 1; rw [Array.size_push]; omega)
    · exact (Heap.get?_update_other _ _ (fun h : S = b => hSf (by rw [h]; exact hb))).trans e
    · refine hR h'' tk'' c' (v :: ys) (by simp [hl]) (fun j u e => ?_) (fun b o hb hbS e => hk'' b o hb hbS ((Heap.get?_update_other _ _ (Ne.symm hbS)).trans (hm b o hb e))) (by simpa using hS'')
      cases j with
      | zero => simp at e; subst e; exact hP
      | succ j => have := hys j u (by simpa using e); rwa [Nat.add_assoc, Nat.add_comm 1 j] at this
theorem ext_range {s : Shared} {r S : Addr} {a b : Int} {t u v : Tok} {m : Nat} {acc : Array Value} {c₀ : Nat} (hh : A.handled = none) (hr : IsRange s.heap r a b 1 t u v) (hsmall : Builtin.Range.small a b 1 = true)
    (hn : Builtin.Range.rangeSize a b 1 = m) (hlen : m ≤ 2 ^ 24) (res : Value) (hS : s.heap.get? S = some { cls := .type "list", data := .seq acc c₀ }) (hz : acc.size + m + 1 ≤ sizeLine)
    (hR : ∀ h' tk c' (ys : List Value), ys.length = m → (∀ (j : Nat) (v : Value), ys[j]? = some v → ∃ t, v = Value.int (a + (j : Int) * 1) t) → (∀ b o, b ≠ S → s.heap.get? b = some o → h'.get? b = some o) → h'.get? S = some { cls := .type "list", data := .seq (acc ++ ys.toArray) c' } → R (.ok (.ret res)) { s with heap := h', toks := tk }) :
    wpAny (model prog w) A.in1 (Builtin.List.listExtendWith (.ref S) (.ref r) res)
      (fun fin s' => match fin with | .done f => R (.ok f) s' | .again c' => c'.quiet = true ∧ codeAny (model prog w) A c' R s') (fun e s' => R (.error e) s') s := by
  have hSr : S ≠ r := fun e => by rw [e, hr] at hS; simp at hS
  have hSlt : S < s.heap.objs.size := Heap.lt_size hS
  have hSI : S ≠ s.heap.objs.size := Nat.ne_of_lt hSlt
  have hSf : S ∉ [s.heap.objs.size] := fun hm => hSI (List.mem_singleton.mp hm)
  have W := Walks.range (prog := prog) (w := w) (A := A.in1) hh s.heap.objs.size a 1 m
  have key : ∀ (h : Heap) (c₁ tk : Nat), IsRangeIter h s.heap.objs.size (a + ((0 : Nat) : Int) * 1) ((m : Int) - ((0 : Nat) : Int)) 1 → (∀ b o, b ≠ S → s.heap.get? b = some o → h.get? b = some o) →
      h.get? S = some { cls := .type "list", data := .seq acc c₁ } → codeAny (model prog w) A (.builtin "list.extend.loop" ⟨[.ref S, .ref s.heap.objs.size, res], []⟩) R { s with heap := h, toks := tk } := by
    intro h c₁ tk hit hk hS₁
    refine ext_loop W S hSf res m 0 _ acc c₁ rfl (Nat.zero_le _) hit hS₁ (by omega) fun h' tk' c' ys hl hys hk' hS' => ?_
    exact hR h' tk' c' ys hl (fun j v e => by simpa using hys j v e) (fun b o hb e => hk' b o (fun hmem => absurd (Heap.lt_size e) (by rw [List.mem_singleton.mp hmem]; exact Nat.lt_irrefl _)) hb (hk b o hb e)) hS'
  unfold Builtin.List.listExtendWith
  refine wpAny_bind (wpAny_typeOf (T := "range") ⟨_, hr, rfl⟩ ?_)
  have h1 : Builtin.List.listSameRef (.ref S) (.ref r) = false := by simp [Builtin.List.listSameRef, hSr]
  have h2 : (Value.type "range" == Value.type "list") = false := by decide
  have h3 : (Value.type "range" == Value.type "tuple") = false := by decide
  simp only [h1, h2, h3, Bool.or_false, Bool.false_eq_true, if_false]
  refine wpAny_bind (wpAny_pyIter_range hr hsmall ?_)
  refine wpAny_bind (wpAny_holding (wpAny_hint_range (n := m) (Heap.get?_push_of_some _ hr) hn hlen ?_))
  have hit₁ : IsRangeIter (s.heap.push { cls := .type "range_iterator", data := .fields #[rawInt a, rawInt (Builtin.Range.rangeSize a b 1), rawInt 1] }) s.heap.objs.size (a + ((0 : Nat) : Int) * 1) ((m : Int) - ((0 : Nat) : Int)) 1 := by
    show IsRangeIter _ _ _ _ _; rw [hn]; simpa using Heap.get?_push_size _ rfl
  have hS₁ := Heap.get?_push_of_some { cls := .type "range_iterator", data := .fields #[rawInt a, rawInt (Builtin.Range.rangeSize a b 1), rawInt 1] } hS
  refine wpAny_ite_split (fun _ => ?_) (fun _ => wpAny_pure ⟨plainId_quiet F.plain_extend_loop _, key _ c₀ _ hit₁ (fun b o _ e => Heap.get?_push_of_some _ e) hS₁⟩)
  refine wpAny_bind (wpAny_rule ?_)
  refine wpAny_bind ?_
  show wpAny _ _ (updateSeq S (·.push .none) >>= fun _ => updateSeq S (·.pop)) _ _ _
  refine wpAny_bind (wpAny_updateSeq hS₁ rfl ?_ (hz := by omega) (_hz' := by show (acc.push _).size ≤ _; rw [Array.size_push]; omega))
  have hS₂ := Heap.get?_update_self (Obj.mapSeq (·.push Value.none)) hS₁ rfl
  refine wpAny_updateSeq (hz := by show (acc.push _).size ≤ _; rw [Array.size_push]; omega) (_hz' := by show ((acc.push _).pop).size ≤ _; rw [Array.pop_push]; omega) hS₂ rfl ?_
  have hS₃ := Heap.get?_update_self (Obj.mapSeq (·.pop)) hS₂ rfl
  refine wpAny_pure ⟨plainId_quiet F.plain_extend_loop _, key _ _ _ ?_ (fun b o hb e => ?_) (by simpa [Obj.mapSeq] using hS₃)⟩
  · exact (Heap.get?_update_other _ _ hSI).trans ((Heap.get?_update_other _ _ hSI).trans hit₁)
  · exact (Heap.get?_update_other _ _ (Ne.symm hb)).trans ((Heap.get?_update_other _ _ (Ne.symm hb)).trans (Heap.get?_push_of_some _ e))
end
inductive Me where | append | extend | pop | get
noncomputable def Me.name : Me → String | .append => "append" | .extend => "extend" | .pop => "pop" | .get => "get"
noncomputable def Me.id : Me → String | .append => "list.append" | .extend => "list.extend" | .pop => "list.pop" | .get => "dict.get"
noncomputable def Me.typ : Me → String | .append => "list" | .extend => "list" | .pop => "list" | .get => "dict"
noncomputable def okRange (a b : Int) : Prop := ((-(2 ^ 60) ≤ a ∧ a ≤ 2 ^ 60) ∧ -(2 ^ 60) ≤ b ∧ b ≤ 2 ^ 60) ∧ b - a ≤ 2 ^ 20
noncomputable def onRg (v : V) (f : Int → Int → Prop) : Prop := match v with | .rng a b => f a b | _ => False
theorem onRg_of {v : V} {f : Int → Int → Prop} (h : onRg v f) : ∃ a b, v = .rng a b ∧ f a b := by
  cases v with | rng a b => exact ⟨a, b, rfl, h⟩ | _ => exact False.elim h
noncomputable def wGet (σ : Sg) (o : V) (k : Int) (d : V) (Q : V → Sg → Prop) : Prop := match o with
  | .ref a => ∃ l, σ a = some (.dict l) ∧ Q ((l.lookup k).getD d) σ
  | .dict l => Q ((l.lookup k).getD d) σ
  | _ => False
noncomputable def wMe (σ : Sg) (m : Me) (o : V) (vs : List V) (Q : V → Sg → Prop) : Prop := match m with
  | .append => onRf o fun a => on1V vs fun v => ∃ l, (σ a = some (.list l) ∧ l.length < sizeLine) ∧ Q .none (upd σ a (.list (l ++ [v])))
  | .extend => onRf o fun a => on1V vs fun v => onRg v fun x y => ∃ l, (σ a = some (.list l) ∧ okRange x y ∧ l.length + (y - x).toNat < sizeLine) ∧ Q .none (upd σ a (.list (l ++ rngV x y)))
  | .pop => onRf o fun a => on0 vs (∃ l v, σ a = some (.list (l ++ [v])) ∧ Q v (upd σ a (.list l)))
  | .get => on2V vs fun k d => onI k fun k => wGet σ o k d Q
noncomputable def isDic (σ : Sg) (v : V) : Prop := match v with
  | .ref a => ∃ l, σ a = some (.dict l)
  | .dict _ => True
  | _ => False
noncomputable def Me.self (σ : Sg) (m : Me) (v : V) : Prop := match m with
  | .get => isDic σ v
  | .append => onRf v fun a => ∃ l, σ a = some (.list l)
  | .extend => onRf v fun a => ∃ l, σ a = some (.list l)
  | .pop => onRf v fun a => ∃ l, σ a = some (.list l)
section
variable {c : Cx} {P : Pg} {n : Nat} {env : Env} {fr : Fm} {σ : Sg} {pos : Pos} {k : Nat}
theorem small_ok {x y : Int} (h : okRange x y) : Builtin.Range.small x y 1 = true ∧ Builtin.Range.rangeSize x y 1 = ((y - x).toNat : Int) := by
  obtain ⟨hb, hc⟩ := h
  have hs : (Builtin.Range.rangeSize x y 1) = ((y - x).toNat : Int) := by
    unfold Builtin.Range.rangeSize
    simp only [show (1 : Int) > 0 from by decide, if_true, Int.ediv_one]
    split <;> omega
  refine ⟨?_, hs⟩
  unfold Builtin.Range.small
  rw [hs]
  simp only [Builtin.Range.rangeFitsLong, Bool.and_eq_true, decide_eq_true_eq, Bool.or_eq_true, show (1 : Int) > 0 from by decide, if_true]
  refine ⟨⟨⟨⟨?_, ?_⟩, ?_⟩, ?_⟩, .inr ?_⟩ <;> omega
theorem rngs_rel {h : Heap} {ow : Addr → Prop} {a : Int} : ∀ {m : Nat} {ys : List Value}, ys.length = m → (∀ (j : Nat) (v : Value), ys[j]? = some v → ∃ t, v = Value.int (a + (j : Int) * 1) t) →
    RelVs c h ow ((List.range m).map fun (i : Nat) => V.int (a + (i : Int))) ys := by
  have go : ∀ (ys : List Value) (i : Nat), (∀ (j : Nat) (v : Value), ys[j]? = some v → ∃ t, v = Value.int (a + ((i + j : Nat) : Int)) t) → RelVs c h ow ((List.range' i ys.length).map fun (i : Nat) => V.int (a + (i : Int))) ys := by
    intro ys
    induction ys with
    | nil => intro i _; simp [RelVs]
    | cons y ys ih =>
      intro i hh
      simp only [List.length_cons, List.range'_succ, List.map_cons, RelVs, RelV]
      refine ⟨by simpa using hh 0 y (by simp), ih (i + 1) fun j v e => ?_⟩
      have := hh (j + 1) v (by simpa using e)
      rwa [show i + (j + 1) = i + 1 + j from by omega] at this
  intro m ys hl hh
  subst hl
  rw [List.range_eq_range']
  exact go ys 0 fun j v e => by simpa using hh j v e
theorem lookup_none {h : Heap} {ow : Addr → Prop} {kvs : List (Int × Value)} {l : List (Int × V)} (e : kvs.map (·.1) = l.map (·.1)) {k : Int} (hn : l.lookup k = none) : valueAt kvs k = none := by
  have : k ∉ l.map (·.1) := fun hm => by
    obtain ⟨p, hp, rfl⟩ := List.mem_map.mp hm
    clear e hm
    induction l with
    | nil => cases hp
    | cons q l ih =>
      by_cases z : p.1 = q.1
      · simp [List.lookup_cons, z] at hn
      · rcases List.mem_cons.mp hp with rfl | hp'
        · exact z rfl
        · have z' : (p.1 == q.1) = false := by simpa using z
          obtain ⟨q1, q2⟩ := q
          simp only [List.lookup_cons, z'] at hn
          exact ih hp' hn
  rw [← e] at this
  unfold valueAt
  rw [Option.map_eq_none_iff, List.find?_eq_none]
  intro p hp hk
  exact this (List.mem_map.mpr ⟨p, hp, by simpa using hk⟩)
/-- a list's turn -/
theorem list_turn {s : Shared} {R : Rw} {a : Addr} {l l' : List V} {arr : Array Value} {m : Nat} {f : Array Value → Array Value} (I : Inv c s.heap σ R) (e : σ a = some (.list l)) (g : s.heap.get? a = some { cls := .type "list", data := .seq arr m })
    (hz : (f arr).size ≤ sizeLine) (r : RelVs c s.heap (own σ R) l' (f arr).toList) :
    Inv c (s.heap.update a (Obj.mapSeq f)) (upd σ a (.list l')) R ∧ Ext s.heap (own σ R) (s.heap.update a (Obj.mapSeq f)) (own (upd σ a (.list l')) R) :=
  I.ownSet (o' := .list l') e (fun b hb o q => (Heap.get?_update_other _ _ (Ne.symm hb)).trans q) (Heap.get?_update_self (Obj.mapSeq f) g rfl) ⟨f arr, _, rfl, hz, r⟩
theorem me_ok (O : CxOK P c) {A : Around} {s : Shared} {R : Rw} {Q : V → Sg → Prop} {m : Me} {v : V} {rv : Value} {vs : List V} {rs : List Value} (hR : Room n A) (I : Inv c s.heap σ R) (r : RelV c s.heap (own σ R) v rv) (rr : RelVs c s.heap (own σ R) vs rs) (h : wMe σ m v vs Q) :
    SemV c A s σ R (call (.builtin m.id) (rv :: rs)) Q := by
  cases m with
  | append =>
    replace h := onRf_of h; obtain ⟨a, e0, h⟩ := h; subst e0
    replace h := on1V_of h; obtain ⟨v, e0, h⟩ := h; subst e0
    obtain ⟨l, ⟨e, hz⟩, q⟩ := h
    obtain ⟨rx, rfl, rx_⟩ := rel_one rr
    have r : rv = .ref a := r
    subst r
    obtain ⟨ob, g, arr, m, rfl, g0, g1⟩ := I.objs _ _ e
    have len := g1.length
    simp only [Array.length_toList] at len
    have key := list_turn (s := s) (f := (·.push rx)) (l' := l ++ [v]) I e g (by rw [Array.size_push]; omega) (by simpa using g1.snoc rx_)
    exact call_meetsIn slot_list_append ⟨_, g, rfl⟩ entry_list_append (F.args_list_append_2 _ _) ((list_append a arr m rx g0).inModel _ _) ⟨g, _, s.toks, .none, _, rfl, key.1, key.2, by simp [RelV], q⟩
  | extend =>
    replace h := onRf_of h; obtain ⟨a, e0, h⟩ := h; subst e0
    replace h := on1V_of h; obtain ⟨v, e0, h⟩ := h; subst e0
    replace h := onRg_of h; obtain ⟨x, y, e0, h⟩ := h; subst e0
    obtain ⟨l, ⟨e, hb, hz⟩, q⟩ := h
    obtain ⟨rx, rfl, rx_⟩ := rel_one rr
    have r : rv = .ref a := r
    subst r
    obtain ⟨ob, g, arr, m, rfl, g0, g1⟩ := I.objs _ _ e
    have len := g1.length
    simp only [Array.length_toList] at len
    obtain ⟨ra, t, u, w, rfl, rg, _⟩ := rx_
    obtain ⟨sm, sz⟩ := small_ok hb
    refine call_meetsIn (S := fun A' R' s' => A'.handled = none ∧ s' = s ∧ R' = wants (PostE c σ R s Q) (fun _ _ => False)) F.slot_list_extend ⟨_, g, rfl⟩ F.entry_list_extend (F.args_list_extend_2 _ _) (fun A' R' s' hs => ?_) ⟨hR.1, rfl, rfl⟩
    obtain ⟨hh, rfl, rfl⟩ := hs
    show wpAny _ _ (Builtin.List.listExtendWith (.ref a) (.ref ra) .none) _ _ _
    refine ext_range (m := (y - x).toNat) hh rg sm sz (by have := hb.2; omega) .none g (by omega) fun h' tk c' ys hl hys hk hg => ?_
    have r2 := g1.append (l' := rngV x y) (rs' := ys) (rngs_rel hl hys)
    obtain ⟨I', X'⟩ := I.ownSet (h' := h') (o' := .list (l ++ rngV x y)) e (fun b hb o q => hk b o hb q) hg ⟨_, _, rfl, by simp; omega, by simpa using r2⟩
    exact ⟨h', tk, .none, _, rfl, I', X', by simp [RelV], q⟩
  | pop =>
    replace h := onRf_of h; obtain ⟨a, e0, h⟩ := h; subst e0
    replace h := on0_of h; obtain ⟨e0, h⟩ := h; subst e0
    obtain ⟨l, v, e, q⟩ := h
    have r : rv = .ref a := r
    subst r
    obtain ⟨ob, g, arr, m, rfl, g0, g1⟩ := I.objs _ _ e
    have len := g1.length
    simp only [Array.length_toList, List.length_append, List.length_singleton] at len
    cases rs with
    | cons _ _ => exact False.elim rr
    | nil =>
      obtain ⟨ry, y1, y2⟩ := g1.get (i := l.length) (v := v) (by simp)
      have y1 : arr[arr.size - 1]? = some ry := by rw [← len]; simpa using y1
      have r2 : RelVs c s.heap (own σ R) l (arr.eraseIdxIfInBounds (arr.size - 1)).toList := by
        have := g1.take l.length
        rw [List.take_left' rfl] at this
        have e : (arr.eraseIdxIfInBounds (arr.size - 1)).toList = arr.toList.take l.length := by
          have hlt : arr.size - 1 < arr.size := by omega
          simp only [Array.eraseIdxIfInBounds, hlt, dif_pos, Array.toList_eraseIdx]
          rw [List.eraseIdx_eq_take_drop_succ]
          rw [show arr.size - 1 = l.length from by omega, List.drop_eq_nil_of_le (by simp; omega), List.append_nil]
        rw [e]; exact this
      have key := list_turn (s := s) (f := fun xs => xs.eraseIdxIfInBounds (arr.size - 1)) (l' := l) I e g (by have := MeetsSeq.size_erased arr (arr.size - 1); omega) r2
      exact call_meetsIn F.slot_list_pop ⟨_, g, rfl⟩ F.entry_list_pop (F.args_list_pop_1 _) ((MeetsSeq.list_pop_last a arr m ry y1 g0).inModel _ _) ⟨g, _, s.toks, v, _, rfl, key.1, key.2, y2.ext key.2, q⟩
  | get =>
    replace h := on2V_of h; obtain ⟨k, d, e0, h⟩ := h; subst e0
    replace h := onI_of h; obtain ⟨k, e0, h⟩ := h; subst e0
    obtain ⟨rk, rd, rfl, ⟨t, rfl⟩, rd_⟩ := rel_two rr
    cases v with
    | ref a =>
      obtain ⟨l, e, q⟩ := h
      have r : rv = .ref a := r
      subst r
      obtain ⟨ob, g, es, m, rfl, g0, g1, g2⟩ := I.objs _ _ e
      obtain ⟨kvs, d1, d2, d3⟩ := dictOf_of g g1 g2
      have lo : (a == sysModules) = false := beq_eq_false_iff_ne.mpr (I.lo _ _ e)
      refine call_meetsIn F.slot_dict_get d1.typeIs F.entry_dict_get (F.args_dict_get_3 _ _ _) (meets_dict_get_default (intKind c.prog c.w) a (k := k) (key := .int k t) (by simp [intKind, Value.isInt]) lo rd) ⟨_, d1.mapOf, ?_⟩
      cases z : l.lookup k with
      | none => rw [z] at q; rw [lookup_none (h := s.heap) (ow := own σ R) d2 z]; exact .val I rd_ q
      | some u => rw [z] at q; obtain ⟨ru, u1, u2⟩ := d3 _ _ z; rw [u1]; exact .val I u2 q
    | dict l =>
      obtain ⟨a, es, m, rfl, g, nb, gb, g0, g1, g2⟩ := r
      have h : Q ((l.lookup k).getD d) σ := h
      obtain ⟨kvs, d1, d2, d3⟩ := dictOf_of g g1 g2
      have lo : (a == sysModules) = false := beq_eq_false_iff_ne.mpr gb
      refine call_meetsIn F.slot_dict_get d1.typeIs F.entry_dict_get (F.args_dict_get_3 _ _ _) (meets_dict_get_default (intKind c.prog c.w) a (k := k) (key := .int k t) (by simp [intKind, Value.isInt]) lo rd) ⟨_, d1.mapOf, ?_⟩
      cases z : l.lookup k with
      | none => rw [z] at h; rw [lookup_none (h := s.heap) (ow := own σ R) d2 z]; exact .val I rd_ h
      | some u => rw [z] at h; obtain ⟨ru, u1, u2⟩ := d3 _ _ z; rw [u1]; exact .val I u2 h
    | _ => exact False.elim h
theorem Me.look (m : Me) : ∃ T id, T = m.typ ∧ id = m.id ∧ PlainAttrs T ∧ Slot T (S m.name) id ∧ typeOf (.builtin id) = pure (.type "method_descriptor") := by
  cases m with
  | append => exact ⟨"list", "list.append", rfl, rfl, F.plainAttrs_list, F.slot_list_append, F.type_list_append⟩
  | extend => exact ⟨"list", "list.extend", rfl, rfl, F.plainAttrs_list, F.slot_list_extend, F.type_list_extend⟩
  | pop => exact ⟨"list", "list.pop", rfl, rfl, F.plainAttrs_list, F.slot_list_pop, F.type_list_pop⟩
  | get => exact ⟨"dict", "dict.get", rfl, rfl, F.plainAttrs_dict, F.slot_dict_get, F.type_dict_get⟩
theorem Me.self_at {h : Heap} {R : Rw} {s : Shared} {m : Me} {v : V} {rv : Value} (I : Inv c s.heap σ R) (r : RelV c s.heap (own σ R) v rv) (e : m.self σ v) : s.TypeIs rv m.typ ∧ ∀ a, rv = .ref a → ∃ ob, s.heap.get? a = some ob ∧ ob.dict = none := by
  have L : ∀ a l, σ a = some (.list l) → rv = .ref a → s.TypeIs rv "list" ∧ ∀ a, rv = .ref a → ∃ ob, s.heap.get? a = some ob ∧ ob.dict = none := fun a l e e' => by
    subst e'
    obtain ⟨ob, g, arr, m, rfl, _⟩ := I.objs _ _ e
    exact ⟨⟨_, g, rfl⟩, fun b hb => by cases hb; exact ⟨_, g, rfl⟩⟩
  have D : ∀ a l, σ a = some (.dict l) → rv = .ref a → s.TypeIs rv "dict" ∧ ∀ a, rv = .ref a → ∃ ob, s.heap.get? a = some ob ∧ ob.dict = none := fun a l e e' => by
    subst e'
    obtain ⟨ob, g, arr, m, rfl, _⟩ := I.objs _ _ e
    exact ⟨⟨_, g, rfl⟩, fun b hb => by cases hb; exact ⟨_, g, rfl⟩⟩
  cases m with
  | get =>
    cases v with
    | dict l =>
      obtain ⟨a, es, m, rfl, g, _⟩ := r
      exact ⟨⟨_, g, rfl⟩, fun b hb => by cases hb; exact ⟨_, g, rfl⟩⟩
    | ref a => obtain ⟨l, e⟩ := e; exact D _ l e r
    | _ => exact False.elim e
  | append => obtain ⟨a, rfl, l, e⟩ := onRf_of e; exact L _ l e r
  | extend => obtain ⟨a, rfl, l, e⟩ := onRf_of e; exact L _ l e r
  | pop => obtain ⟨a, rfl, l, e⟩ := onRf_of e; exact L _ l e r
theorem all_plain : ∀ {es : List Expr}, (∀ e ∈ es, notStar e = true) → (backTo pos (starEach es env)).all (fun x => !x.1) = true
  | [], _ => rfl
  | e :: es, h => by
    rw [starEach_cons (h e (.head _))]
    show (true && (backTo pos (starEach es env)).all (fun x => !x.1)) = true
    rw [all_plain fun x hx => h x (.tail _ hx)]; rfl
theorem sem_me (O : CxOK P c) {Q : V → Sg → Prop} {o : Expr} {apos : Pos} {es : List Expr} (m : Me) (ho : notCall o = true) (hs : ∀ x ∈ es, notStar x = true) (hl : es.length < 29) (hline : (apos.endLine == pos.line) = true)
    (h : SemE c n env o fr σ fun v σ₁ => m.self σ₁ v ∧ SemL c n env pos es fr σ₁ fun vs σ₂ => wMe σ₂ m v vs Q) : SemE c n env (.Call (.Attribute o (S m.name) apos) es [] pos) fr σ Q := by
  intro A s R hR I F
  obtain ⟨T, id, eT, eid, pa, slot, hty⟩ := m.look
  refine wpAny_Call_method (attrBase ho _ _) ?_ hline pa slot hty ?_
  · rw [all_plain hs]
    show (true && true && decide (es.length + 0 + 0 < 30)) = true
    simp; omega
  refine (h A s R hR I F).then fun rv h₁ t₁ v σ₁ I₁ X₁ v_ q => ?_
  obtain ⟨q1, q2⟩ := q
  obtain ⟨a1, a2⟩ := Me.self_at (h := h₁) (s := { s with heap := h₁, toks := t₁ }) I₁ v_ q1
  refine ⟨eT ▸ a1, a2, ?_⟩
  have pl := starEach_any (pos := pos) (env := env) hs
  have core := PostG.then (β := Value) (K := fun vs s₁ => wpAny (model c.prog c.w) A (call (.builtin id) (rv :: vs)) (PostE c σ R s Q) (fun _ _ => False) s₁) (q2 A { s with heap := h₁, toks := t₁ } R hR I₁ (F.ext X₁)) fun rs h₂ t₂ σ₂ I₂ X₂ q => by
    obtain ⟨vs, r, q⟩ := q
    rw [eid]
    exact SemV.trans (s := s) (t₁ := t₂) (X₁.trans X₂) (me_ok O (s := { s with heap := h₂, toks := t₂ }) hR I₂ (v_.ext X₂) r q)
  refine callWith_builtin pl ?_
  cases es with
  | nil =>
    unfold evalArgs
    show wpAny _ _ (spliced [] >>= _) _ _ _
    refine wpAny_bind (wpAny_mono (s := { s with heap := h₁, toks := t₁ }) core (fun vs s' h' => ?_) fun _ _ f => f)
    refine wpAny_bind (wpAny_pure ?_)
    refine wpAny_holding ?_
    exact wpAny_bind (wpAny_pure (wpAny_bind (wpAny_pure (wpAny_pure h'))))
  | cons e es =>
    rw [starEach_cons (hs e (.head _))] at core ⊢
    exact evalArgs_plain core
end
end PyW
namespace PyW
/-! ### items stored -/
noncomputable def idxOf (l : List V) (k : Int) : Option Nat := if 0 ≤ k then (if k < l.length then some k.toNat else none) else if -(l.length : Int) ≤ k then some (k + l.length).toNat else none
noncomputable def setD (l : List (Int × V)) (k : Int) (v : V) : List (Int × V) := if l.any (fun p => p.1 = k) then l.map (fun p => if p.1 = k then (p.1, v) else p) else l ++ [(k, v)]
noncomputable def wSet (σ : Sg) (v : V) : V → V → (Sg → Prop) → Prop
  | .ref a, .int k, Q => match σ a with
    | some (.list l) => ∃ j, idxOf l k = some j ∧ Q (upd σ a (.list (l.set j v)))
    | some (.dict l) => l.length < sizeLine ∧ Q (upd σ a (.dict (setD l k v)))
    | _ => False
  | _, _, _ => False
section
variable {c : Cx} {P : Pg} {n : Nat} {env : Env} {fr : Fm} {σ : Sg} {pos : Pos} {k : Nat}
theorem set_list {A : Around} {s : Shared} {E : Value → Shared → Prop} {a : Addr} {arr : Array Value} {m : Nat} {k : Int} {t : Tok} {v : Value} {Q : Unit → Shared → Prop} {j : Nat} {l : List V} (g : s.heap.get? a = some { cls := .type "list", data := .seq arr m }) (hlen : l.length = arr.size) (hz : arr.size ≤ sizeLine)
    (hj : idxOf l k = some j) (h : Q () { s with heap := s.heap.update a (Obj.mapSeq (·.setIfInBounds j v)) }) : wpAny (model c.prog c.w) A (setItem (.ref a) (.int k t) v) Q E s := by
  have hl : s.heap.IsList a arr := ⟨_, g, rfl, m, rfl⟩
  have big := sizeLine_lt
  unfold setItem
  try with_reducible refine wpAny_holding ?_
  first | refine wpAny_bind (wpAny_pure ?_) | skip
  refine wpAny_bind (wpAny_sequenceKey hl.typeIs (by decide) ?_)
  refine wpAny_bind (wpAny_callSpecial?_slot (name := Str.ofString "__setitem__") hl.typeIs slot_list_setitem
    (wpAny_call_entry slot_list_setitem hl.typeIs entry_list_setitem ?_ (args_list_setitem _ _ _)))
  show wpAny _ _ (Builtin.List.listSubscript? (.int k t) >>= _) _ _ s
  unfold idxOf at hj
  by_cases h0 : 0 ≤ k
  · rw [if_pos h0] at hj
    split at hj
    · rename_i hk
      refine wpAny_bind (wpAny_listSubscript_int (fitsIndex_of h0 (by omega)) ?_)
      obtain ⟨i, rfl⟩ := Int.eq_ofNat_of_zero_le h0
      simp only [Option.some.injEq] at hj
      have hj : i = j := by simpa using hj
      subst hj
      have hi : i < arr.size := by omega
      have hx' : arr[i]? = some arr[i] := Array.getElem?_eq_getElem hi
      show wpAny _ _ ((seqItemAt a i >>= fun r => pure (r.map (i, ·))) >>= _) _ _ s
      refine wpAny_bind (wpAny_bind (wpAny_seqItemAt g rfl (wpAny_pure ?_)))
      rw [hx']
      show wpAny _ _ (setSeqItemAt a i v >>= _) _ _ s
      refine wpAny_bind (wpAny_setSeqItemAt g rfl ?_)
      first
        | exact wpAny_bind (wpAny_pure (wpAny_pure ⟨.none, rfl, wpAny_pure h⟩))
        | exact wpAny_pure ⟨.none, rfl, wpAny_pure h⟩
    · cases hj
  · rw [if_neg h0] at hj
    split at hj
    · rename_i hk
      refine wpAny_bind (wpAny_listSubscript_int (fitsIndex_neg (by omega) (by omega)) ?_)
      have hidx := seqIndex_neg (n := arr.size) (show k < 0 by omega) (by omega)
      simp only [Option.some.injEq] at hj
      rw [hlen] at hj
      rw [hj] at hidx
      have hi : j < arr.size := by omega
      have hx' : arr[j]? = some arr[j] := Array.getElem?_eq_getElem hi
      obtain ⟨i, rfl⟩ : ∃ i : Nat, k = Int.negSucc i := by
        cases k with
        | ofNat n => exact absurd (Int.natCast_nonneg n) h0
        | negSucc n => exact ⟨n, rfl⟩
      show wpAny _ _ ((Builtin.List.listItems (.ref a) >>= fun xs => pure ((seqIndex? (Int.negSucc i) xs.size).bind fun i => xs[i]?.map (i, ·))) >>= _) _ _ s
      refine wpAny_bind (wpAny_bind ?_)
      show wpAny _ _ (seqItems? (.ref a) >>= _) _ _ s
      refine wpAny_bind (wpAny_seqItems g rfl (wpAny_pure (wpAny_pure ?_)))
      rw [hidx]
      simp only [Option.bind_some, hx', Option.map_some]
      show wpAny _ _ (setSeqItemAt a j v >>= _) _ _ s
      refine wpAny_bind (wpAny_setSeqItemAt g rfl ?_)
      first
        | exact wpAny_bind (wpAny_pure (wpAny_pure ⟨.none, rfl, wpAny_pure h⟩))
        | exact wpAny_pure ⟨.none, rfl, wpAny_pure h⟩
    · cases hj
theorem RelVs.set {h : Heap} {ow : Addr → Prop} {v : V} {r : Value} (hv : RelV c h ow v r) : ∀ {l : List V} {rs : List Value} (j : Nat), RelVs c h ow l rs → RelVs c h ow (l.set j v) (rs.set j r)
  | [], [], _, _ => by simp [RelVs]
  | _ :: _, _ :: _, 0, e => by simp only [RelVs] at e; simp only [List.set_cons_zero, RelVs]; exact ⟨hv, e.2⟩
  | _ :: _, _ :: _, j + 1, e => by simp only [RelVs] at e; simp only [List.set_cons_succ, RelVs]; exact ⟨e.1, RelVs.set hv j e.2⟩
  | [], _ :: _, _, e => by simp [RelVs] at e
  | _ :: _, [], _, e => by simp [RelVs] at e
/-- a dict's pairs -/
noncomputable def RelK (c : Cx) (h : Heap) (ow : Addr → Prop) : List (Int × V) → List (Int × Value) → Prop
  | [], [] => True
  | (k, v) :: l, (k', r) :: kvs => k = k' ∧ RelV c h ow v r ∧ RelK c h ow l kvs
  | _, _ => False
theorem relK_of {h : Heap} {ow : Addr → Prop} : ∀ {l : List (Int × V)} {es : List DictEntry}, RelD c h ow l es → ∃ kvs : List (Int × Value), Pairs (intKind c.prog c.w) es kvs ∧ RelK c h ow l kvs
  | [], [], _ => ⟨[], .nil, trivial⟩
  | (k, v) :: l, e :: es, r => by
    simp only [RelD] at r
    obtain ⟨⟨t, h1, h2⟩, h3, h4⟩ := r
    obtain ⟨kvs, p1, p2⟩ := relK_of h4
    exact ⟨(k, e.val) :: kvs, .cons (by show Value.isInt k e.key = true; rw [h1]; simp [Value.isInt]) rfl p1, rfl, h3, p2⟩
  | [], _ :: _, e => by simp [RelD] at e
  | _ :: _, [], e => by simp [RelD] at e
theorem relD_of {h : Heap} {ow : Addr → Prop} : ∀ {l : List (Int × V)} {es : List DictEntry} {kvs : List (Int × Value)}, Pairs (intKind c.prog c.w) es kvs → (∀ e ∈ es, ∃ k, Value.isInt k e.key = true ∧ e.hash = hashInt k) → RelK c h ow l kvs → RelD c h ow l es
  | [], _, [], p, _, _ => by cases p; simp [RelD]
  | (k, v) :: l, _, (k', r) :: kvs, p, hh, e => by
    cases p with
    | @cons e' kv es' kvs' p1 p2 p3 =>
      obtain ⟨rfl, e2, e3⟩ := e
      obtain ⟨k2, z1, z2⟩ := hh _ (.head _)
      have p1 : Value.isInt k e'.key = true := p1
      simp only [RelD]
      refine ⟨?_, by rw [p2]; exact e2, relD_of p3 (fun x hx => hh x (.tail _ hx)) e3⟩
      cases hq : e'.key <;> rw [hq] at p1 z1 <;> simp [Value.isInt] at p1 z1
      subst p1; subst z1
      exact ⟨_, hq, z2⟩
  | [], _, _ :: _, _, _, e => e.elim
  | _ :: _, _, [], _, _, e => e.elim
theorem RelK.keys {h : Heap} {ow : Addr → Prop} : ∀ {l : List (Int × V)} {kvs : List (Int × Value)}, RelK c h ow l kvs → kvs.map (·.1) = l.map (·.1)
  | [], [], _ => rfl
  | (_, _) :: _, (_, _) :: _, e => by simp only [List.map_cons]; rw [e.1, RelK.keys e.2.2]
  | [], _ :: _, e => e.elim
  | _ :: _, [], e => e.elim
theorem RelK.setMap {h : Heap} {ow : Addr → Prop} {k : Int} {v : V} {r : Value} (hv : RelV c h ow v r) : ∀ {l : List (Int × V)} {kvs : List (Int × Value)}, RelK c h ow l kvs →
    RelK c h ow (l.map (fun p => if p.1 = k then (p.1, v) else p)) (kvs.map (fun kv => if kv.1 = k then (kv.1, r) else kv))
  | [], [], _ => trivial
  | (a, _) :: _, (b, _) :: _, e => by
    obtain ⟨rfl, e2, e3⟩ := e
    simp only [List.map_cons]
    by_cases q : a = k
    · simp only [q, if_true]; exact ⟨rfl, hv, RelK.setMap hv e3⟩
    · simp only [q, if_false]; exact ⟨rfl, e2, RelK.setMap hv e3⟩
  | [], _ :: _, e => e.elim
  | _ :: _, [], e => e.elim
theorem RelK.append {h : Heap} {ow : Addr → Prop} {k : Int} {v : V} {r : Value} (hv : RelV c h ow v r) : ∀ {l : List (Int × V)} {kvs : List (Int × Value)}, RelK c h ow l kvs → RelK c h ow (l ++ [(k, v)]) (kvs ++ [(k, r)])
  | [], [], _ => ⟨rfl, hv, trivial⟩
  | (_, _) :: _, (_, _) :: _, e => ⟨e.1, e.2.1, RelK.append hv e.2.2⟩
  | [], _ :: _, e => e.elim
  | _ :: _, [], e => e.elim
theorem any_keys {α β : Type} {k : Int} : ∀ {l : List (Int × α)} {m : List (Int × β)}, l.map (·.1) = m.map (·.1) → l.any (fun p => p.1 = k) = m.any (fun p => p.1 = k)
  | [], [], _ => rfl
  | _ :: _, _ :: _, e => by simp only [List.map_cons, List.cons.injEq] at e; simp only [List.any_cons]; rw [e.1, any_keys e.2]
  | [], _ :: _, e => by simp at e
  | _ :: _, [], e => by simp at e
theorem RelK.set {h : Heap} {ow : Addr → Prop} {k : Int} {v : V} {r : Value} (hv : RelV c h ow v r) {l : List (Int × V)} {kvs : List (Int × Value)} (e : RelK c h ow l kvs) : RelK c h ow (setD l k v) (stored kvs k r) := by
  unfold setD stored
  rw [any_keys e.keys]
  split
  · exact RelK.setMap hv e
  · exact RelK.append hv e
theorem RelK.ext {h h' : Heap} {ow ow' : Addr → Prop} (X : Ext h ow h' ow') : ∀ {l : List (Int × V)} {kvs : List (Int × Value)}, RelK c h ow l kvs → RelK c h' ow' l kvs
  | [], [], _ => trivial
  | (_, _) :: _, (_, _) :: _, e => ⟨e.1, e.2.1.ext X, RelK.ext X e.2.2⟩
  | [], _ :: _, e => e.elim
  | _ :: _, [], e => e.elim
theorem pairs_len {es : List DictEntry} {kvs : List (Int × Value)} (p : Pairs (intKind c.prog c.w) es kvs) : es.length = kvs.length := by
  induction p with
  | nil => rfl
  | cons _ _ _ ih => simp [ih]
theorem stored_len {kvs : List (Int × Value)} {k : Int} {r : Value} : (stored kvs k r).length ≤ kvs.length + 1 := by
  unfold stored; split <;> simp
theorem relD_hash {h : Heap} {ow : Addr → Prop} : ∀ {l : List (Int × V)} {es : List DictEntry}, RelD c h ow l es → ∀ x ∈ es, ∃ k, Value.isInt k x.key = true ∧ x.hash = hashInt k
  | [], [], _, x, hx => by cases hx
  | (pk, pv) :: l, y :: ys, g2, x, hx => by
    simp only [RelD] at g2
    rcases List.mem_cons.mp hx with rfl | hx
    · obtain ⟨⟨t, h1, h2⟩, _⟩ := g2; exact ⟨pk, by rw [h1]; simp [Value.isInt], h2⟩
    · exact relD_hash g2.2.2 x hx
  | [], _ :: _, e, _, _ => by simp [RelD] at e
  | _ :: _, [], e, _, _ => by simp [RelD] at e
theorem set_ok {A : Around} {s : Shared} {R : Rw} {v o i : V} {rv ro ri : Value} {K : Unit → Shared → Prop} {Q : Sg → Prop} (I : Inv c s.heap σ R) (ro_ : RelV c s.heap (own σ R) o ro) (ri_ : RelV c s.heap (own σ R) i ri) (rv_ : RelV c s.heap (own σ R) v rv)
    (h : wSet σ v o i Q) (fin : ∀ h' tk σ', Inv c h' σ' R → Ext s.heap (own σ R) h' (own σ' R) → Q σ' → K () { s with heap := h', toks := tk }) :
    wpAny (model c.prog c.w) A (setItem ro ri rv) K (fun _ _ => False) s := by
  unfold wSet at h
  split at h
  · rename_i a k
    simp only [RelV] at ro_ ri_
    subst ro_
    obtain ⟨t, rfl⟩ := ri_
    split at h
    · rename_i l e
      obtain ⟨j, hj, q⟩ := h
      obtain ⟨ob, g, arr, m, rfl, g0, g1⟩ := I.objs _ _ e
      have len := g1.length
      simp only [Array.length_toList] at len
      have key := list_turn (s := s) (f := (·.setIfInBounds j rv)) (l' := l.set j v) I e g (by simpa using g0) (by simpa using g1.set rv_ j)
      exact set_list g len g0 hj (fin _ s.toks _ key.1 key.2 q)
    · rename_i l e
      obtain ⟨hz, q⟩ := h
      obtain ⟨ob, g, es, m, rfl, g0, g1, g2⟩ := I.objs _ _ e
      obtain ⟨kvs, p1, p2⟩ := relK_of g2
      have hks := p2.keys
      have hlen : kvs.length = l.length := by simpa using congrArg List.length hks
      have hash := relD_hash g2
      have D : s.heap.DictOf (intKind c.prog c.w) a kvs := ⟨_, es, m, g, ⟨rfl, rfl, rfl⟩, rfl, fun x hx => hash x (Array.mem_toList_iff.mpr hx), p1, by rw [hks]; exact g1⟩
      refine wpAny_setItem_pairs (k := k) (by show Value.isInt k (.int k t) = true; simp [Value.isInt]) D (fun h' D' hs => ?_) (by omega)
      obtain ⟨o', es', m', g', ⟨x1, x2, x3⟩, x4, x5, x6, x7⟩ := D'
      have ho' : o' = { cls := .type "dict", data := .dict es' m' } := by
        cases o'; simp only at x1 x2 x3 x4; subst x1 x2 x3 x4; rfl
      subst ho'
      have r2 := p2.set (k := k) rv_
      have n2 := r2.keys
      have l2 := pairs_len x6
      have l3 := stored_len (kvs := kvs) (k := k) (r := rv)
      simp only [Array.length_toList] at l2
      obtain ⟨I', X'⟩ := I.ownSet (h' := h') (o' := .dict (setD l k v)) e (fun b hb o q => hs.extBut b o hb q) g' ⟨es', m', rfl, by omega, by rw [← n2]; exact x7, relD_of x6 (fun x hx => x5 x (Array.mem_toList_iff.mp hx)) r2⟩
      exact fin _ (s.toks + 1) _ I' X' q
    · exact h.elim
  · exact h.elim
theorem semT_sub {Q : Fm → Sg → Prop} {value slice : Expr} {v : V} (h : SemE c n env value fr σ fun o σ₁ => SemE c n env slice fr σ₁ fun i σ₂ => wSet σ₂ v o i fun σ₃ => Q fr σ₃) : SemT c n env (.Subscript value slice pos) v fr σ Q := by
  intro A s R rv hR I F r
  rw [arm_assign_Subscript]
  refine wpAny_bind (wpAny_holding (h.thenS (α := Unit) hR I F fun ro h₁ t₁ o σ₁ I₁ X₁ F₁ ro_ q => wpAny_bind (wpAny_holding ?_)))
  refine SemE.thenS (α := Unit) (s := { s with heap := h₁, toks := t₁ }) q hR I₁ F₁ fun ri h₂ t₂ i σ₂ I₂ X₂ F₂ ri_ q => wpAny_bind (wpAny_standAt (wpAny_bind (wpAny_holding ?_)))
  refine set_ok (s := { s with heap := h₂, toks := t₂ }) I₂ (ro_.ext X₂) ri_ ((r.ext X₁).ext X₂) q fun h₃ t₃ σ₃ I₃ X₃ q => wpAny_release ?_
  exact ⟨h₃, t₃, σ₃, R, fr, rfl, I₃, (X₁.trans X₂).trans X₃, Fr2.refl _ _, F₂.ext X₃, q⟩
/-! ### an empty dict -/
theorem sem_dict0 {Q : V → Sg → Prop} (h : ∀ a, σ a = none → Q (.ref a) (upd σ a (.dict []))) : SemE c n env (.Dict [] [] pos) fr σ Q := by
  intro A s R hR I F
  refine wpAny_Dict_empty ?_
  have k : ∀ a o, s.heap.get? a = some o → (s.heap.push { cls := .type "dict", data := .dict #[] }).get? a = some o := fun _ _ e => Heap.get?_push_of_some _ e
  refine ⟨_, s.toks, .ref s.heap.objs.size, _, rfl, I.ownNew (o := .dict []) k (get_size _) I.fresh1 (Heap.get?_push_size _ rfl) ⟨#[], 0, rfl, by simp, by simp, by simp [RelD]⟩, Ext.ownNew k (get_size _), by simp [RelV], h _ ?_⟩
  cases e : σ s.heap.objs.size with
  | none => rfl
  | some o => exact absurd (.inl (by rw [e]; exact fun z => nomatch z)) I.fresh
/-! ### in, is -/
inductive CX where | isIn | notIn | is | isNot | eqv | nev | eq0 | ne0
noncomputable def CX.op : CX → CmpOp | .isIn => .In | .notIn => .NotIn | .is => .Is | .isNot => .IsNot | .eqv => .Eq | .nev => .NotEq | .eq0 => .Eq | .ne0 => .NotEq
/-- an owned list as the list that it is now -/
noncomputable def res (σ : Sg) : V → V
  | .ref a => match σ a with
    | some (.list l) => .list l
    | _ => .ref a
  | v => v
noncomputable def isNone : V → Bool | .none => true | _ => false
noncomputable def wCx (σ : Sg) (op : CX) (a b : V) (Q : Bool → Prop) : Prop := match op with
  | .isIn => ∃ xs, asSeq σ b = some xs ∧ (plains 7 xs ∧ plain 7 a) ∧ Q (xs.any fun y => pyEq y a)
  | .notIn => ∃ xs, asSeq σ b = some xs ∧ (plains 7 xs ∧ plain 7 a) ∧ Q (!xs.any fun y => pyEq y a)
  | .is => b = .none ∧ Q (isNone a)
  | .isNot => b = .none ∧ Q (!isNone a)
  | .eqv => (plain 8 (res σ a) ∧ plain 8 (res σ b)) ∧ Q (pyEq (res σ a) (res σ b))
  | .nev => (plain 8 (res σ a) ∧ plain 8 (res σ b)) ∧ Q (!pyEq (res σ a) (res σ b))
  | .eq0 => b = .list [] ∧ ∃ l, asList σ a = some l ∧ Q l.isEmpty
  | .ne0 => b = .list [] ∧ ∃ l, asList σ a = some l ∧ Q (!l.isEmpty)
theorem toPys_any (x : V) : ∀ l : List V, ((toPys l).any fun y => PyData.eqv y (toPy x)) = l.any fun y => pyEq y x
  | [] => rfl
  | v :: l => by simp only [toPys, List.any_cons]; rw [toPys_any x l]; rfl
theorem cx_ok {op : CX} {A : Around} {s : Shared} {R : Rw} {Q : V → Sg → Prop} {a b : V} {ra rb : Value} (r : Room n A) (I : Inv c s.heap σ R) (ha : RelV c s.heap (own σ R) a ra) (hb : RelV c s.heap (own σ R) b rb) (h : wCx σ op a b fun v => Q (.bool v) σ) :
    SemV c A s σ R (compareOp op.op ra rb) Q := by
  have none_eq : ∀ {v : V} {rv : Value}, RelV c s.heap (own σ R) v rv → plainIs rv .none = true ∧ (rv == Value.none) = isNone v := by
    intro v rv e
    cases v with
    | none => cases (show rv = .none from e); exact ⟨rfl, rfl⟩
    | bool b => cases (show rv = .bool b from e); exact ⟨rfl, rfl⟩
    | int i => obtain ⟨t, rfl⟩ := e; exact ⟨rfl, rfl⟩
    | str x => obtain ⟨t, rfl⟩ := e; exact ⟨rfl, rfl⟩
    | tup l => obtain ⟨a, _, _, rfl, _⟩ := e; exact ⟨rfl, rfl⟩
    | list l => obtain ⟨a, _, _, rfl, _⟩ := e; exact ⟨rfl, rfl⟩
    | dict l => obtain ⟨a, _, _, rfl, _⟩ := e; exact ⟨rfl, rfl⟩
    | rng a b => obtain ⟨a, _, _, _, rfl, _⟩ := e; exact ⟨rfl, rfl⟩
    | obj a b => obtain ⟨a, _, rfl, _⟩ := e; exact ⟨rfl, rfl⟩
    | ref a => cases (show rv = .ref a from e); exact ⟨rfl, rfl⟩
  have inn : ∀ {xs : List V}, asSeq σ b = some xs → plains 7 xs ∧ plain 7 a → ∃ as bs, (Reads s.heap rb (.list (toPys xs)) as ∨ Reads s.heap rb (.tuple (toPys xs)) as) ∧ Reads s.heap ra (toPy a) bs ∧ PyData.canLayAll0 (toPys xs) = true ∧ (toPy a).canLay0 = true ∧ A.units + 1 + min (PyData.depthAll (toPys xs)) (toPy a).depth < cLine := by
    intro xs e p
    obtain ⟨x, T, arr, m, hT, rfl, g1, g2, g3, _⟩ := asSeq_rel I e hb
    obtain ⟨as, q⟩ := plains_reads p.1 g3
    obtain ⟨bs, q2⟩ := plain_reads p.2 ha
    have s1 := plains_shape p.1
    have s2 := plain_shape p.2
    have u := r.units64
    have hu : A.units + 1 + min (PyData.depthAll (toPys xs)) (toPy a).depth < cLine := by
      have : min (PyData.depthAll (toPys xs)) (toPy a).depth ≤ 7 := Nat.le_trans (Nat.min_le_right _ _) s2.2
      omega
    rcases hT with rfl | rfl
    · exact ⟨_, bs, .inl (reads_list_at g1 rfl rfl q), q2, s1.1, s2.1, hu⟩
    · exact ⟨_, bs, .inr (reads_tuple_at g1 rfl rfl q), q2, s1.1, s2.1, hu⟩
  have rd : ∀ {v : V} {rv : Value}, plain 8 (res σ v) → RelV c s.heap (own σ R) v rv → ∃ as, Reads s.heap rv (toPy (res σ v)) as := by
    intro v rv p e
    cases v with
    | ref a =>
      simp only [res] at p ⊢
      cases z : σ a with
      | none => rw [z] at p; simp only at p; simp [plain] at p
      | some o =>
        cases o with
        | list l =>
          rw [z] at p
          simp only at p ⊢
          simp only [RelV] at e; subst e
          obtain ⟨ob, g, arr, m, rfl, g0, g1⟩ := I.objs _ _ z
          simp only [plain] at p
          obtain ⟨as, q⟩ := plains_reads p g1
          exact ⟨_, by simp only [toPy]; exact reads_list_at g rfl rfl q⟩
        | dict l => rw [z] at p; simp only at p; simp [plain] at p
        | sdict l => rw [z] at p; simp only at p; simp [plain] at p
        | ns l => rw [z] at p; simp only at p; simp [plain] at p
    | _ => exact plain_reads p e
  have sh : ∀ {v : V}, plain 8 v → SeqAt.shaped (toPy v) = true := fun p => by
    have := plain_shape p
    unfold SeqAt.shaped
    rw [this.1, Bool.true_and, decide_eq_true_eq]; omega
  have empty : ∀ {l : List V}, asList σ a = some l → b = .list [] → ∃ x arr y brr, ra = .ref x ∧ s.heap.IsList x arr ∧ rb = .ref y ∧ s.heap.IsList y brr ∧ brr.size = 0 ∧ arr.size = l.length ∧
      (l = [] → (∃ as, Reads s.heap ra (.list []) as) ∧ ∃ as, Reads s.heap rb (.list []) as) := by
    intro l e eb
    subst eb
    obtain ⟨x, arr, m, rfl, g1, g2, g3⟩ := asList_rel I e ha
    simp only [RelV] at hb
    obtain ⟨y, brr, m2, rfl, k1, k2, k3, k4⟩ := hb
    have l1 := g3.length
    have l2 := k4.length
    simp only [Array.length_toList, List.length_nil] at l1 l2
    refine ⟨x, arr, y, brr, rfl, ⟨_, g1, rfl, m, rfl⟩, rfl, ⟨_, k1, rfl, m2, rfl⟩, l2.symm, l1.symm, fun q => ?_⟩
    subst q
    obtain ⟨as, r1⟩ := plains_reads (n := 8) (l := []) (by simp [plains]) g3
    obtain ⟨bs, r2⟩ := plains_reads (n := 8) (l := []) (by simp [plains]) k4
    exact ⟨⟨_, reads_list_at g1 rfl rfl r1⟩, ⟨_, reads_list_at k1 rfl rfl r2⟩⟩
  cases op with
  | isIn =>
    obtain ⟨xs, e, p, q⟩ := h
    obtain ⟨as, bs, h1, h2, h3, h4, h5⟩ := inn e p
    rcases h1 with h1 | h1
    · exact SeqAt.in_list_reads h1 h2 h3 h4 h5 (by rw [toPys_any]; exact .bool I q)
    · exact SeqAt.in_tuple_reads h1 h2 h3 h4 h5 (by rw [toPys_any]; exact .bool I q)
  | notIn =>
    obtain ⟨xs, e, p, q⟩ := h
    obtain ⟨as, bs, h1, h2, h3, h4, h5⟩ := inn e p
    rcases h1 with h1 | h1
    · exact SeqAt.notIn_list_reads h1 h2 h3 h4 h5 (by rw [toPys_any]; exact .bool I q)
    · exact SeqAt.notIn_tuple_reads h1 h2 h3 h4 h5 (by rw [toPys_any]; exact .bool I q)
  | is =>
    obtain ⟨rfl, h⟩ := h
    have hb : rb = .none := hb
    subst hb
    obtain ⟨e1, e2⟩ := none_eq ha
    exact wpAny_is_plain e1 (by rw [e2]; exact .bool I h)
  | isNot =>
    obtain ⟨rfl, h⟩ := h
    have hb : rb = .none := hb
    subst hb
    obtain ⟨e1, e2⟩ := none_eq ha
    exact wpAny_isNot_plain e1 (by rw [e2]; exact .bool I h)
  | eqv =>
    obtain ⟨p, q⟩ := h
    obtain ⟨as, h1⟩ := rd p.1 ha
    obtain ⟨bs, h2⟩ := rd p.2 hb
    exact SeqAt.compareEq_shaped h1 h2 (sh p.1) (sh p.2) r.units64 (.bool I q)
  | nev =>
    obtain ⟨p, q⟩ := h
    obtain ⟨as, h1⟩ := rd p.1 ha
    obtain ⟨bs, h2⟩ := rd p.2 hb
    exact SeqAt.compareNe_shaped h1 h2 (sh p.1) (sh p.2) r.units64 (.bool I q)
  | eq0 =>
    obtain ⟨rfl, l, e, q⟩ := h
    obtain ⟨x, arr, y, brr, rfl, i1, rfl, i2, z1, z2, z3⟩ := empty e rfl
    cases l with
    | nil =>
      obtain ⟨⟨as, r1⟩, bs, r2⟩ := z3 rfl
      exact SeqAt.compareEq_shaped r1 r2 (by decide) (by decide) r.units64 (.bool I q)
    | cons v l => exact SeqAt.eq_list_lengthsAt i1 i2 (by rw [z1, z2]; simp) r.units (.bool I q)
  | ne0 =>
    obtain ⟨rfl, l, e, q⟩ := h
    obtain ⟨x, arr, y, brr, rfl, i1, rfl, i2, z1, z2, z3⟩ := empty e rfl
    cases l with
    | nil =>
      obtain ⟨⟨as, r1⟩, bs, r2⟩ := z3 rfl
      exact SeqAt.compareNe_shaped r1 r2 (by decide) (by decide) r.units64 (.bool I q)
    | cons v l => exact SeqAt.RcNeAt.lists_lengths i1 i2 (by rw [z1, z2]; simp) r.units c.prog c.w _ _ (.bool I q)
theorem behind_notSet {op : CmpOp} {r : Expr} (h : notSet r = true) : behindInMarks op r = false := by
  cases r <;> first | rfl | cases h
theorem wCx_mono {op : CX} {a b : V} {Q Q' : Bool → Prop} (h : wCx σ op a b Q) (k : ∀ v, Q v → Q' v) : wCx σ op a b Q' := by
  cases op with
  | isIn => obtain ⟨xs, e, p, q⟩ := h; exact ⟨xs, e, p, k _ q⟩
  | notIn => obtain ⟨xs, e, p, q⟩ := h; exact ⟨xs, e, p, k _ q⟩
  | eq0 => obtain ⟨r, l, e, q⟩ := h; exact ⟨r, l, e, k _ q⟩
  | ne0 => obtain ⟨r, l, e, q⟩ := h; exact ⟨r, l, e, k _ q⟩
  | _ => exact ⟨h.1, k _ h.2⟩
theorem sem_cx {Q : V → Sg → Prop} {l r : Expr} {op : CX} (hs : notSet r = true) (h : SemE c n env l fr σ fun va σ₁ => SemE c n env r fr σ₁ fun vb σ₂ => wCx σ₂ op va vb fun v => Q (.bool v) σ₂) : SemE c n env (.Compare l [op.op] [r] pos) fr σ Q := by
  intro A s R hR I F
  refine wpAny_Compare1 ((h A s R hR I F).then fun ra h₁ t₁ va σ₁ I₁ X₁ va_ h₁' => ?_) (behind_notSet hs)
  refine (h₁' A { s with heap := h₁, toks := t₁ } R hR I₁ (F.ext X₁)).then fun rb h₂ t₂ vb σ₂ I₂ X₂ vb_ h₂' => ?_
  exact SemV.trans (s := s) (t₁ := t₂) (X₁.trans X₂) (cx_ok (s := { s with heap := h₂, toks := t₂ }) hR I₂ (va_.ext X₂) vb_ h₂')
theorem semB_cx {Q : Bool → Sg → Prop} {l r : Expr} {op : CX} (hs : notSet r = true) (h : SemE c n env l fr σ fun va σ₁ => SemE c n env r fr σ₁ fun vb σ₂ => wCx σ₂ op va vb fun v => Q v σ₂) : SemB c n env (.Compare l [op.op] [r] pos) fr σ Q := by
  intro A s R hR I F
  refine wpAny_isTrue_Compare1 ((h A s R hR I F).then fun ra h₁ t₁ va σ₁ I₁ X₁ va_ h₁' => ?_) (behind_notSet hs)
  refine (h₁' A { s with heap := h₁, toks := t₁ } R hR I₁ (F.ext X₁)).then fun rb h₂ t₂ vb σ₂ I₂ X₂ vb_ h₂' => ?_
  refine (cx_ok (s := { s with heap := h₂, toks := t₂ }) (Q := fun v σ' => ∃ b, v = .bool b ∧ Q b σ') hR I₂ (va_.ext X₂) vb_ (wCx_mono h₂' fun b q => ⟨b, rfl, q⟩)).then fun rc h₃ t₃ v σ₃ I₃ X₃ v_ h₃' => ?_
  obtain ⟨b, rfl, q⟩ := h₃'
  simp only [RelV] at v_
  subst v_
  exact wpAny_truthy_bool ⟨h₃, t₃, σ₃, rfl, I₃, (X₁.trans X₂).trans X₃, q⟩
end
end PyW
namespace PyW
/-! ### zip, as what a loop goes over -/
noncomputable def zipV : List V → List V → List V
  | a :: l, b :: m => .tup [a, b] :: zipV l m
  | _, _ => []
theorem zipV_get : ∀ {l m : List V} {i : Nat} {v : V}, (zipV l m)[i]? = some v → ∃ a b, l[i]? = some a ∧ m[i]? = some b ∧ v = .tup [a, b]
  | a :: l, b :: m, 0, v, h => by simp [zipV] at h; exact ⟨a, b, by simp, by simp, h.symm⟩
  | a :: l, b :: m, i + 1, v, h => by
    simp only [zipV, List.getElem?_cons_succ] at h
    obtain ⟨x, y, h1, h2, h3⟩ := zipV_get h
    exact ⟨x, y, by simpa using h1, by simpa using h2, h3⟩
  | [], _, _, _, h => by simp [zipV] at h
  | _ :: _, [], _, _, h => by simp [zipV] at h
theorem zipV_end : ∀ {l m : List V}, l[(zipV l m).length]? = none ∨ m[(zipV l m).length]? = none
  | a :: l, b :: m => by
    simp only [zipV, List.length_cons, List.getElem?_cons_succ]
    exact zipV_end
  | [], _ => by simp [zipV]
  | _ :: _, [] => by simp [zipV]
theorem zipV_len : ∀ {l m : List V}, (zipV l m).length ≤ l.length
  | a :: l, b :: m => by simp only [zipV, List.length_cons]; have := zipV_len (l := l) (m := m); omega
  | [], _ => by simp [zipV]
  | _ :: _, [] => by simp [zipV]
section
variable {c : Cx} {P : Pg} {n : Nat} {env : Env} {fr : Fm} {σ : Sg} {pos : Pos} {k : Nat}
structure ZipSt (c : Cx) (Z TI TO i1 i2 l1 l2 : Addr) (xs ys : Array Value) (la lb : List V) (k : Nat) (h : Heap) (ow : Addr → Prop) : Prop where
  z : IsZip h Z TI TO .none
  ti : IsPair h TI (.ref i1) (.ref i2)
  to : ∃ a b, IsPair h TO a b
  it1 : h.IsListIter i1 l1 k
  it2 : h.IsListIter i2 l2 k
  il1 : h.IsList l1 xs
  il2 : h.IsList l2 ys
  nti : ¬ ow TI
  nl1 : ¬ ow l1
  nl2 : ¬ ow l2
  r1 : RelVs c h ow la xs.toList
  r2 : RelVs c h ow lb ys.toList
theorem Stp.zip {A : Around} (hh : A.handled = none) {Z TI TO i1 i2 l1 l2 : Addr} {xs ys : Array Value} {la lb : List V} (D : ZipApart Z TI TO i1 i2 l1 l2) :
    Stp c A true (.ref Z) [Z, TO, i1, i2] (zipV la lb) (ZipSt c Z TI TO i1 i2 l1 l2 xs ys la lb) where
  frame := fun i h ow h' ow' st X k => by
    obtain ⟨a1, a2, ⟨x, y, a3⟩, a4, a5, a6, a7, a8, a9, a10, a11, a12⟩ := st
    refine ⟨k _ (by simp) _ a1, X.keep _ _ a2 a8, ⟨x, y, k _ (by simp) _ a3⟩, ?_, ?_, ?_, ?_, X.free _ _ a2 a8, ?_, ?_, a11.ext X, a12.ext X⟩
    · obtain ⟨o, e, r⟩ := a4; exact ⟨o, k _ (by simp) _ e, r⟩
    · obtain ⟨o, e, r⟩ := a5; exact ⟨o, k _ (by simp) _ e, r⟩
    · obtain ⟨o, e, r⟩ := a6; exact ⟨o, X.keep _ _ e a9, r⟩
    · obtain ⟨o, e, r⟩ := a7; exact ⟨o, X.keep _ _ e a10, r⟩
    · obtain ⟨o, e, r⟩ := a6; exact X.free _ _ e a9
    · obtain ⟨o, e, r⟩ := a7; exact X.free _ _ e a10
  self := fun i s ow Q E st q => wpAny_pyIter_zip st.z q
  item := fun i s σ R v target K ht hv I₀ hw st kk => by
    obtain ⟨a1, a2, ⟨x0, y0, a3⟩, a4, a5, a6, a7, a8, a9, a10, a11, a12⟩ := id st
    obtain ⟨va, vb, va1, vb1, rfl⟩ := zipV_get hv
    obtain ⟨rx, x1, x2⟩ := a11.get va1
    obtain ⟨ry, y1, y2⟩ := a12.get vb1
    obtain ⟨elts, kd, tp, rfl⟩ : ∃ elts kd tp, target = .Tuple elts kd tp := by
      have := ht rfl
      cases target with
      | Tuple a b d => exact ⟨a, b, d, rfl⟩
      | _ => exact Bool.noConfusion (show false = true from this)
    refine wpAny_pyNext_zip_item D a1 a2 a3 a4 a5 a6 a7 (by simpa using x1) (by simpa using y1) fun h' b1 b2 b3 b4 b5 b6 b7 => ?_
    dsimp only
    refine wpAny_letOwnedTupleGo_zip b1 fun h'' z'' sb => ?_
    have TZ : s.heap.objs.size ≠ Z := (Nat.ne_of_lt (Heap.lt_size a1)).symm
    have keep : ∀ b o, b ∉ [Z, TO, i1, i2] → s.heap.get? b = some o → h''.get? b = some o := fun b o nb e => by
      simp only [List.mem_cons, List.not_mem_nil, or_false, not_or] at nb
      exact sb.extBut _ _ nb.1 (b7 b o nb.1 nb.2.1 nb.2.2.1 nb.2.2.2 e)
    have n4 : h''.IsListIter i1 l1 (i + 1) := b3.extBut sb.extBut D.i1z
    have n5 : h''.IsListIter i2 l2 (i + 1) := b4.extBut sb.extBut D.i2z
    have nTO : IsPair h'' TO rx ry := sb.extBut _ _ D.TOz b2
    obtain ⟨I₁, eo, X⟩ := I₀.rawSets [Z, TO, i1, i2] hw (fun b o nb e => keep b o nb e) (fun a ha => by
      simp only [List.mem_cons, List.not_mem_nil, or_false] at ha
      rcases ha with rfl | rfl | rfl | rfl
      · exact ⟨_, z''⟩
      · exact ⟨_, nTO⟩
      · obtain ⟨o, e, _⟩ := n4; exact ⟨o, e⟩
      · obtain ⟨o, e, _⟩ := n5; exact ⟨o, e⟩)
    refine kk (.ref s.heap.objs.size) h'' s.toks _ (fun a na => rawOf_off na) (fun a ha => ?_) I₁ X ?_ ?_
    · have : ∃ o, h''.get? a = some o := by
        simp only [List.mem_cons, List.not_mem_nil, or_false] at ha
        rcases ha with rfl | rfl | rfl | rfl
        · exact ⟨_, z''⟩
        · exact ⟨_, nTO⟩
        · obtain ⟨o, e, _⟩ := n4; exact ⟨o, e⟩
        · obtain ⟨o, e, _⟩ := n5; exact ⟨o, e⟩
      obtain ⟨o, e⟩ := this
      simp [rawOf, ha, e]
    · refine ⟨z'', X.keep _ _ a2 a8, ⟨_, _, nTO⟩, n4, n5, ?_, ?_, X.free _ _ a2 a8, ?_, ?_, a11.ext X, a12.ext X⟩
      · obtain ⟨o, e, r⟩ := a6; exact ⟨o, X.keep _ _ e a9, r⟩
      · obtain ⟨o, e, r⟩ := a7; exact ⟨o, X.keep _ _ e a10, r⟩
      · obtain ⟨o, e, r⟩ := a6; exact X.free _ _ e a9
      · obtain ⟨o, e, r⟩ := a7; exact X.free _ _ e a10
    · simp only [RelV]
      refine ⟨s.heap.objs.size, #[rx, ry], 0, rfl, sb.extBut _ _ TZ b5, ?_, by rw [sizeLine_eq]; simp, ?_⟩
      · rw [eo]; exact I₀.fresh
      · simp only [RelVs]; exact ⟨x2.ext X, y2.ext X, trivial⟩
  done := fun s σ R K I₀ hw st kk => by
    obtain ⟨a1, a2, ⟨x0, y0, a3⟩, a4, a5, a6, a7, a8, a9, a10, a11, a12⟩ := id st
    have l1 := a11.length
    have l2 := a12.length
    simp only [Array.length_toList] at l1 l2
    refine wpAny_pyNext_zip_end hh D a1 a2 a3 a4 a5 a6 a7 ?_ fun h' keep => ⟨rfl, ?_⟩
    · rcases zipV_end (l := la) (m := lb) with e | e
      · left; rw [List.getElem?_eq_none_iff] at e; rw [Array.getElem?_eq_none_iff]; omega
      · right; rw [List.getElem?_eq_none_iff] at e; rw [Array.getElem?_eq_none_iff]; omega
    · obtain ⟨I₁, X⟩ := I₀.rawDrop (h' := h') [Z, TO, i1, i2] hw (fun b o nb e => by
        simp only [List.mem_cons, List.not_mem_nil, or_false, not_or] at nb
        exact keep b o nb.1 nb.2.1 nb.2.2.1 nb.2.2.2 e)
      exact kk h' s.toks I₁ X
theorem semI_zip (O : CxOK P c) {Q : List V → Sg → Prop} {p : Pos} {ea eb : Expr} (hk : env.kindOf (S "zip") = some .globalImplicit) (hs : ∀ x ∈ [ea, eb], notStar x = true)
    (h : SemL c n env pos [ea, eb] fr σ fun vs σ₁ => ∃ la lb, vs = [.list la, .list lb] ∧ Q (zipV la lb) σ₁) : SemI c n env true (.Call (.Name (S "zip") p) [ea, eb] [] pos) fr σ Q := by
  intro A s R hR I F
  rw [arm_eval_Call_Name']
  refine wpAny_bind (glob_any O I F hk (S_ne (by decide)) (.inr (O.bt "zip" (by decide))) ?_)
  have pl := starEach_any (pos := pos) (env := env) hs
  have core := PostG.then (β := Value) (K := fun vs s₁ => wpAny (model c.prog c.w) A (call (.type "zip") vs) (fun x s₂ => wpAny (model c.prog c.w) A (pyIter x) (ItPost c A true σ R s Q) (fun _ _ => False) s₂) (fun _ _ => False) s₁) (h A s R hR I F) fun rs h₁ t₁ σ₁ I₁ X₁ q => by
    obtain ⟨vs, r, la, lb, rfl, q⟩ := q
    obtain ⟨r1, r2, rfl, ⟨l1, xs, m1, rfl, g1, n1, z1, e1⟩, ⟨l2, ys, m2, rfl, g2, n2, z2, e2⟩⟩ := rel_two r
    refine call_zip_2 (s := { s with heap := h₁, toks := t₁ }) ⟨_, g1, rfl, m1, rfl⟩ ⟨_, g2, rfl, m2, rfl⟩ fun h' b1 b2 b3 b4 b5 b6 b7 => ?_
    dsimp only at b1 b2 b3 b4 b5 b6 b7 ⊢
    refine wpAny_pyIter_zip b1 ?_
    generalize hN : h₁.objs.size = N at *
    have lt1 : @LT.lt Nat _ l1 N := by rw [← hN]; exact Heap.lt_size g1
    have lt2 : @LT.lt Nat _ l2 N := by rw [← hN]; exact Heap.lt_size g2
    have ge : ∀ a, N ≤ a → h₁.get? a = none := fun a ha => by
      cases e : h₁.get? a with
      | none => rfl
      | some o => exact absurd (Heap.lt_size e) (by rw [hN]; exact Nat.not_lt.mpr ha)
    have D : ZipApart (N + 4) (N + 2) (N + 3) N (N + 1) l1 l2 := by
      constructor <;> (show ¬ ((_ : Nat) = _); omega)
    have wn : ∀ a ∈ [N + 4, N + 3, N, N + 1], h₁.get? a = none := fun a ha => by
      simp only [List.mem_cons, List.not_mem_nil, or_false] at ha
      rcases ha with rfl | rfl | rfl | rfl <;> exact ge _ (by show (_ : Nat) ≤ _; omega)
    obtain ⟨i1, i2, i3, _⟩ := I₁.rawNews [N + 4, N + 3, N, N + 1] wn b7 (fun a ha => by
      simp only [List.mem_cons, List.not_mem_nil, or_false] at ha
      rcases ha with rfl | rfl | rfl | rfl
      · exact ⟨_, b1⟩
      · exact ⟨_, b3⟩
      · obtain ⟨o, e, _⟩ := b4; exact ⟨o, e⟩
      · obtain ⟨o, e, _⟩ := b5; exact ⟨o, e⟩)
    have len1 := e1.length
    simp only [Array.length_toList] at len1
    have zl := zipV_len (l := la) (m := lb)
    refine ⟨h', t₁, σ₁, true, [N + 4, N + 3, N, N + 1], zipV la lb, _, rfl, fun _ => rfl, Stp.zip (xs := xs) (ys := ys) hR.1 D, fun a ha => ?_, by omega, i1, X₁.trans i2, i3, ?_, q⟩
    · cases e : R a with
      | none => rfl
      | some o => have := I₁.raw a o e; rw [wn a ha] at this; cases this
    · refine ⟨b1, b2, ⟨_, _, b3⟩, b4, b5, ?_, ?_, fun w => ?_, i2.free _ _ g1 n1, i2.free _ _ g2 n2, e1.ext i2, e2.ext i2⟩
      · exact ⟨_, b7 _ _ g1, rfl, m1, rfl⟩
      · exact ⟨_, b7 _ _ g2, rfl, m2, rfl⟩
      · have nT : N + 2 ∉ [N + 4, N + 3, N, N + 1] := by
          simp only [List.mem_cons, List.not_mem_nil, or_false, not_or]
          refine ⟨?_, ?_, ?_, ?_⟩ <;> (show ¬ ((_ : Nat) = _); omega)
        have w' : own σ₁ R (N + 2) := by
          unfold own at w ⊢
          rw [rawOf_off nT] at w; exact w
        obtain ⟨o, e⟩ := I₁.own_get w'
        rw [ge _ (by show (_ : Nat) ≤ _; omega)] at e; cases e
  show wpAny _ _ (callWith pos (.type "zip") [] (backTo pos (starEach [ea, eb] env)) []) _ _ _
  refine PySem.callWith_type pl ?_
  rw [starEach_cons (hs ea (.head _))] at core ⊢
  exact evalArgs_plain core
end
end PyW
namespace PyW
/-! ### looks at a node, without a match -/
theorem dif_of {p : Prop} [Decidable p] {f : p → Bool} (h : (if h : p then f h else false) = true) : ∃ hp : p, f hp = true := by
  by_cases hp : p
  · rw [dif_pos hp] at h; exact ⟨hp, h⟩
  · rw [dif_neg hp] at h; cases h
theorem a2 {a b : Bool} (h : (a && b) = true) : a = true ∧ b = true := Bool.and_eq_true_iff.mp h
theorem a3 {a b c : Bool} (h : (a && b && c) = true) : a = true ∧ b = true ∧ c = true := ⟨(a2 (a2 h).1).1, (a2 (a2 h).1).2, (a2 h).2⟩
noncomputable def onC {α : Type} (l : List α) (k : α → List α → Bool) : Bool := List.rec (motive := fun _ => Bool) false (fun a t _ => k a t) l
theorem onC_of {α : Type} {l : List α} {k : α → List α → Bool} {C : List α → Prop} (h : onC l k = true) (m : ∀ a t, k a t = true → C (a :: t)) : C l := by
  cases l with
  | nil => exact Bool.noConfusion (show false = true from h)
  | cons a t => exact m a t h
noncomputable def on1 {α : Type} (l : List α) (k : α → Bool) : Bool := onC l fun a t => t.isEmpty && k a
theorem on1_of {α : Type} {l : List α} {k : α → Bool} {C : List α → Prop} (h : on1 l k = true) (m : ∀ a, k a = true → C [a]) : C l :=
  onC_of h fun a t h => by
    obtain ⟨h1, h2⟩ := a2 h
    cases List.isEmpty_iff.mp h1
    exact m a h2
noncomputable def onS {α : Type} (o : Option α) (k : α → Bool) : Bool := Option.rec (motive := fun _ => Bool) false k o
theorem onS_of {α : Type} {o : Option α} {k : α → Bool} {C : Option α → Prop} (h : onS o k = true) (m : ∀ a, k a = true → C (some a)) : C o := by
  cases o with
  | none => exact Bool.noConfusion (show false = true from h)
  | some a => exact m a h
noncomputable def onBoolOp (x : Expr) (k : BoolOp → List Expr → Pos → Bool) : Bool := if h : x.ctorIdx = 0 then Expr.BoolOp.elim (motive_1 := fun _ => Bool) x h k else false
theorem onBoolOp_of {x : Expr} {k : BoolOp → List Expr → Pos → Bool} {C : Expr → Prop} (hc : onBoolOp x k = true) (m : ∀ a b c, k a b c = true → C (.BoolOp a b c)) : C x :=
  let ⟨hp, h⟩ := dif_of hc
  Expr.BoolOp.elim (motive_1 := fun x => ∀ hp : x.ctorIdx = 0, Expr.BoolOp.elim (motive_1 := fun _ => Bool) x hp k = true → C x) x hp (fun a b c _ h => m a b c h) hp h
noncomputable def onBinOp (x : Expr) (k : Expr → Operator → Expr → Pos → Bool) : Bool := if h : x.ctorIdx = 2 then Expr.BinOp.elim (motive_1 := fun _ => Bool) x h k else false
theorem onBinOp_of {x : Expr} {k : Expr → Operator → Expr → Pos → Bool} {C : Expr → Prop} (hc : onBinOp x k = true) (m : ∀ a b c d, k a b c d = true → C (.BinOp a b c d)) : C x :=
  let ⟨hp, h⟩ := dif_of hc
  Expr.BinOp.elim (motive_1 := fun x => ∀ hp : x.ctorIdx = 2, Expr.BinOp.elim (motive_1 := fun _ => Bool) x hp k = true → C x) x hp (fun a b c d _ h => m a b c d h) hp h
noncomputable def onUnaryOp (x : Expr) (k : UnaryOp → Expr → Pos → Bool) : Bool := if h : x.ctorIdx = 3 then Expr.UnaryOp.elim (motive_1 := fun _ => Bool) x h k else false
theorem onUnaryOp_of {x : Expr} {k : UnaryOp → Expr → Pos → Bool} {C : Expr → Prop} (hc : onUnaryOp x k = true) (m : ∀ a b c, k a b c = true → C (.UnaryOp a b c)) : C x :=
  let ⟨hp, h⟩ := dif_of hc
  Expr.UnaryOp.elim (motive_1 := fun x => ∀ hp : x.ctorIdx = 3, Expr.UnaryOp.elim (motive_1 := fun _ => Bool) x hp k = true → C x) x hp (fun a b c _ h => m a b c h) hp h
noncomputable def onIfExp (x : Expr) (k : Expr → Expr → Expr → Pos → Bool) : Bool := if h : x.ctorIdx = 5 then Expr.IfExp.elim (motive_1 := fun _ => Bool) x h k else false
theorem onIfExp_of {x : Expr} {k : Expr → Expr → Expr → Pos → Bool} {C : Expr → Prop} (hc : onIfExp x k = true) (m : ∀ a b c d, k a b c d = true → C (.IfExp a b c d)) : C x :=
  let ⟨hp, h⟩ := dif_of hc
  Expr.IfExp.elim (motive_1 := fun x => ∀ hp : x.ctorIdx = 5, Expr.IfExp.elim (motive_1 := fun _ => Bool) x hp k = true → C x) x hp (fun a b c d _ h => m a b c d h) hp h
noncomputable def onDict (x : Expr) (k : List (Option Expr) → List Expr → Pos → Bool) : Bool := if h : x.ctorIdx = 6 then Expr.Dict.elim (motive_1 := fun _ => Bool) x h k else false
theorem onDict_of {x : Expr} {k : List (Option Expr) → List Expr → Pos → Bool} {C : Expr → Prop} (hc : onDict x k = true) (m : ∀ a b c, k a b c = true → C (.Dict a b c)) : C x :=
  let ⟨hp, h⟩ := dif_of hc
  Expr.Dict.elim (motive_1 := fun x => ∀ hp : x.ctorIdx = 6, Expr.Dict.elim (motive_1 := fun _ => Bool) x hp k = true → C x) x hp (fun a b c _ h => m a b c h) hp h
noncomputable def onListComp (x : Expr) (k : Expr → List Comprehension → Scope → Pos → Bool) : Bool := if h : x.ctorIdx = 8 then Expr.ListComp.elim (motive_1 := fun _ => Bool) x h k else false
theorem onListComp_of {x : Expr} {k : Expr → List Comprehension → Scope → Pos → Bool} {C : Expr → Prop} (hc : onListComp x k = true) (m : ∀ a b c d, k a b c d = true → C (.ListComp a b c d)) : C x :=
  let ⟨hp, h⟩ := dif_of hc
  Expr.ListComp.elim (motive_1 := fun x => ∀ hp : x.ctorIdx = 8, Expr.ListComp.elim (motive_1 := fun _ => Bool) x hp k = true → C x) x hp (fun a b c d _ h => m a b c d h) hp h
noncomputable def onCompare (x : Expr) (k : Expr → List CmpOp → List Expr → Pos → Bool) : Bool := if h : x.ctorIdx = 15 then Expr.Compare.elim (motive_1 := fun _ => Bool) x h k else false
theorem onCompare_of {x : Expr} {k : Expr → List CmpOp → List Expr → Pos → Bool} {C : Expr → Prop} (hc : onCompare x k = true) (m : ∀ a b c d, k a b c d = true → C (.Compare a b c d)) : C x :=
  let ⟨hp, h⟩ := dif_of hc
  Expr.Compare.elim (motive_1 := fun x => ∀ hp : x.ctorIdx = 15, Expr.Compare.elim (motive_1 := fun _ => Bool) x hp k = true → C x) x hp (fun a b c d _ h => m a b c d h) hp h
noncomputable def onCall (x : Expr) (k : Expr → List Expr → List Keyword → Pos → Bool) : Bool := if h : x.ctorIdx = 16 then Expr.Call.elim (motive_1 := fun _ => Bool) x h k else false
theorem onCall_of {x : Expr} {k : Expr → List Expr → List Keyword → Pos → Bool} {C : Expr → Prop} (hc : onCall x k = true) (m : ∀ a b c d, k a b c d = true → C (.Call a b c d)) : C x :=
  let ⟨hp, h⟩ := dif_of hc
  Expr.Call.elim (motive_1 := fun x => ∀ hp : x.ctorIdx = 16, Expr.Call.elim (motive_1 := fun _ => Bool) x hp k = true → C x) x hp (fun a b c d _ h => m a b c d h) hp h
noncomputable def onConstant (x : Expr) (k : Const → Nat → Pos → Bool) : Bool := if h : x.ctorIdx = 19 then Expr.Constant.elim (motive_1 := fun _ => Bool) x h k else false
theorem onConstant_of {x : Expr} {k : Const → Nat → Pos → Bool} {C : Expr → Prop} (hc : onConstant x k = true) (m : ∀ a b c, k a b c = true → C (.Constant a b c)) : C x :=
  let ⟨hp, h⟩ := dif_of hc
  Expr.Constant.elim (motive_1 := fun x => ∀ hp : x.ctorIdx = 19, Expr.Constant.elim (motive_1 := fun _ => Bool) x hp k = true → C x) x hp (fun a b c _ h => m a b c h) hp h
noncomputable def onAttribute (x : Expr) (k : Expr → Str → Pos → Bool) : Bool := if h : x.ctorIdx = 20 then Expr.Attribute.elim (motive_1 := fun _ => Bool) x h k else false
theorem onAttribute_of {x : Expr} {k : Expr → Str → Pos → Bool} {C : Expr → Prop} (hc : onAttribute x k = true) (m : ∀ a b c, k a b c = true → C (.Attribute a b c)) : C x :=
  let ⟨hp, h⟩ := dif_of hc
  Expr.Attribute.elim (motive_1 := fun x => ∀ hp : x.ctorIdx = 20, Expr.Attribute.elim (motive_1 := fun _ => Bool) x hp k = true → C x) x hp (fun a b c _ h => m a b c h) hp h
noncomputable def onSubscript (x : Expr) (k : Expr → Expr → Pos → Bool) : Bool := if h : x.ctorIdx = 21 then Expr.Subscript.elim (motive_1 := fun _ => Bool) x h k else false
theorem onSubscript_of {x : Expr} {k : Expr → Expr → Pos → Bool} {C : Expr → Prop} (hc : onSubscript x k = true) (m : ∀ a b c, k a b c = true → C (.Subscript a b c)) : C x :=
  let ⟨hp, h⟩ := dif_of hc
  Expr.Subscript.elim (motive_1 := fun x => ∀ hp : x.ctorIdx = 21, Expr.Subscript.elim (motive_1 := fun _ => Bool) x hp k = true → C x) x hp (fun a b c _ h => m a b c h) hp h
noncomputable def onName (x : Expr) (k : Str → Pos → Bool) : Bool := if h : x.ctorIdx = 23 then Expr.Name.elim (motive_1 := fun _ => Bool) x h k else false
theorem onName_of {x : Expr} {k : Str → Pos → Bool} {C : Expr → Prop} (hc : onName x k = true) (m : ∀ a b, k a b = true → C (.Name a b)) : C x :=
  let ⟨hp, h⟩ := dif_of hc
  Expr.Name.elim (motive_1 := fun x => ∀ hp : x.ctorIdx = 23, Expr.Name.elim (motive_1 := fun _ => Bool) x hp k = true → C x) x hp (fun a b _ h => m a b h) hp h
noncomputable def onList (x : Expr) (k : List Expr → Pos → Bool) : Bool := if h : x.ctorIdx = 24 then Expr.List.elim (motive_1 := fun _ => Bool) x h k else false
theorem onList_of {x : Expr} {k : List Expr → Pos → Bool} {C : Expr → Prop} (hc : onList x k = true) (m : ∀ a b, k a b = true → C (.List a b)) : C x :=
  let ⟨hp, h⟩ := dif_of hc
  Expr.List.elim (motive_1 := fun x => ∀ hp : x.ctorIdx = 24, Expr.List.elim (motive_1 := fun _ => Bool) x hp k = true → C x) x hp (fun a b _ h => m a b h) hp h
noncomputable def onTuple (x : Expr) (k : List Expr → Nat → Pos → Bool) : Bool := if h : x.ctorIdx = 25 then Expr.Tuple.elim (motive_1 := fun _ => Bool) x h k else false
theorem onTuple_of {x : Expr} {k : List Expr → Nat → Pos → Bool} {C : Expr → Prop} (hc : onTuple x k = true) (m : ∀ a b c, k a b c = true → C (.Tuple a b c)) : C x :=
  let ⟨hp, h⟩ := dif_of hc
  Expr.Tuple.elim (motive_1 := fun x => ∀ hp : x.ctorIdx = 25, Expr.Tuple.elim (motive_1 := fun _ => Bool) x hp k = true → C x) x hp (fun a b c _ h => m a b c h) hp h
noncomputable def onSlice (x : Expr) (k : Option Expr → Option Expr → Option Expr → Pos → Bool) : Bool := if h : x.ctorIdx = 26 then Expr.Slice.elim (motive_1 := fun _ => Bool) x h k else false
theorem onSlice_of {x : Expr} {k : Option Expr → Option Expr → Option Expr → Pos → Bool} {C : Expr → Prop} (hc : onSlice x k = true) (m : ∀ a b c d, k a b c d = true → C (.Slice a b c d)) : C x :=
  let ⟨hp, h⟩ := dif_of hc
  Expr.Slice.elim (motive_1 := fun x => ∀ hp : x.ctorIdx = 26, Expr.Slice.elim (motive_1 := fun _ => Bool) x hp k = true → C x) x hp (fun a b c d _ h => m a b c d h) hp h
noncomputable def onS_Return (x : Stmt) (k : Option Expr → Pos → Bool) : Bool := if h : x.ctorIdx = 3 then Stmt.Return.elim (motive_2 := fun _ => Bool) x h k else false
theorem onS_Return_of {x : Stmt} {k : Option Expr → Pos → Bool} {C : Stmt → Prop} (hc : onS_Return x k = true) (m : ∀ a b, k a b = true → C (.Return a b)) : C x :=
  let ⟨hp, h⟩ := dif_of hc
  Stmt.Return.elim (motive_2 := fun x => ∀ hp : x.ctorIdx = 3, Stmt.Return.elim (motive_2 := fun _ => Bool) x hp k = true → C x) x hp (fun a b _ h => m a b h) hp h
noncomputable def onS_Assign (x : Stmt) (k : List Expr → Expr → Pos → Bool) : Bool := if h : x.ctorIdx = 5 then Stmt.Assign.elim (motive_2 := fun _ => Bool) x h k else false
theorem onS_Assign_of {x : Stmt} {k : List Expr → Expr → Pos → Bool} {C : Stmt → Prop} (hc : onS_Assign x k = true) (m : ∀ a b c, k a b c = true → C (.Assign a b c)) : C x :=
  let ⟨hp, h⟩ := dif_of hc
  Stmt.Assign.elim (motive_2 := fun x => ∀ hp : x.ctorIdx = 5, Stmt.Assign.elim (motive_2 := fun _ => Bool) x hp k = true → C x) x hp (fun a b c _ h => m a b c h) hp h
noncomputable def onS_For (x : Stmt) (k : Expr → Expr → List Stmt → List Stmt → Pos → Bool) : Bool := if h : x.ctorIdx = 9 then Stmt.For.elim (motive_2 := fun _ => Bool) x h k else false
theorem onS_For_of {x : Stmt} {k : Expr → Expr → List Stmt → List Stmt → Pos → Bool} {C : Stmt → Prop} (hc : onS_For x k = true) (m : ∀ a b c d e, k a b c d e = true → C (.For a b c d e)) : C x :=
  let ⟨hp, h⟩ := dif_of hc
  Stmt.For.elim (motive_2 := fun x => ∀ hp : x.ctorIdx = 9, Stmt.For.elim (motive_2 := fun _ => Bool) x hp k = true → C x) x hp (fun a b c d e _ h => m a b c d e h) hp h
noncomputable def onS_While (x : Stmt) (k : Expr → List Stmt → List Stmt → Pos → Bool) : Bool := if h : x.ctorIdx = 11 then Stmt.While.elim (motive_2 := fun _ => Bool) x h k else false
theorem onS_While_of {x : Stmt} {k : Expr → List Stmt → List Stmt → Pos → Bool} {C : Stmt → Prop} (hc : onS_While x k = true) (m : ∀ a b c d, k a b c d = true → C (.While a b c d)) : C x :=
  let ⟨hp, h⟩ := dif_of hc
  Stmt.While.elim (motive_2 := fun x => ∀ hp : x.ctorIdx = 11, Stmt.While.elim (motive_2 := fun _ => Bool) x hp k = true → C x) x hp (fun a b c d _ h => m a b c d h) hp h
noncomputable def onS_If (x : Stmt) (k : Expr → List Stmt → List Stmt → Pos → Bool) : Bool := if h : x.ctorIdx = 12 then Stmt.If.elim (motive_2 := fun _ => Bool) x h k else false
theorem onS_If_of {x : Stmt} {k : Expr → List Stmt → List Stmt → Pos → Bool} {C : Stmt → Prop} (hc : onS_If x k = true) (m : ∀ a b c d, k a b c d = true → C (.If a b c d)) : C x :=
  let ⟨hp, h⟩ := dif_of hc
  Stmt.If.elim (motive_2 := fun x => ∀ hp : x.ctorIdx = 12, Stmt.If.elim (motive_2 := fun _ => Bool) x hp k = true → C x) x hp (fun a b c d _ h => m a b c d h) hp h
noncomputable def onS_Expr (x : Stmt) (k : Expr → Pos → Bool) : Bool := if h : x.ctorIdx = 24 then Stmt.Expr.elim (motive_2 := fun _ => Bool) x h k else false
theorem onS_Expr_of {x : Stmt} {k : Expr → Pos → Bool} {C : Stmt → Prop} (hc : onS_Expr x k = true) (m : ∀ a b, k a b = true → C (.Expr a b)) : C x :=
  let ⟨hp, h⟩ := dif_of hc
  Stmt.Expr.elim (motive_2 := fun x => ∀ hp : x.ctorIdx = 24, Stmt.Expr.elim (motive_2 := fun _ => Bool) x hp k = true → C x) x hp (fun a b _ h => m a b h) hp h
noncomputable def onS_Pass (x : Stmt) (k : Pos → Bool) : Bool := if h : x.ctorIdx = 25 then Stmt.Pass.elim (motive_2 := fun _ => Bool) x h k else false
theorem onS_Pass_of {x : Stmt} {k : Pos → Bool} {C : Stmt → Prop} (hc : onS_Pass x k = true) (m : ∀ a, k a = true → C (.Pass a)) : C x :=
  let ⟨hp, h⟩ := dif_of hc
  Stmt.Pass.elim (motive_2 := fun x => ∀ hp : x.ctorIdx = 25, Stmt.Pass.elim (motive_2 := fun _ => Bool) x hp k = true → C x) x hp (fun a _ h => m a h) hp h
noncomputable def onS_Break (x : Stmt) (k : Pos → Bool) : Bool := if h : x.ctorIdx = 26 then Stmt.Break.elim (motive_2 := fun _ => Bool) x h k else false
theorem onS_Break_of {x : Stmt} {k : Pos → Bool} {C : Stmt → Prop} (hc : onS_Break x k = true) (m : ∀ a, k a = true → C (.Break a)) : C x :=
  let ⟨hp, h⟩ := dif_of hc
  Stmt.Break.elim (motive_2 := fun x => ∀ hp : x.ctorIdx = 26, Stmt.Break.elim (motive_2 := fun _ => Bool) x hp k = true → C x) x hp (fun a _ h => m a h) hp h
end PyW
namespace PyW
/-! ### the trees that are dealt with -/
/-- a name, or names in a tuple -/
inductive TL where
  | name (x : String)
  | names (xs : List String)
mutual
inductive E where
  | none | bool (b : Bool) | int (i : Int) | str (s : String) | var (x : String)
  | bin (op : BO) (l r : E) | cmp (op : CO) (l r : E) | cx (op : CX) (l r : E)
  | and (es : List E) | or (es : List E) | not (e : E) | neg (e : E) | ite (t a b : E)
  | tup (es : List E) | lst (isO : Bool) (es : List E) | dict0
  | idx (a b : E) | upto (isO : Bool) (a b : E) | attr (e : E) (x : String)
  | bi (b : Bi) (es : List E) | me (m : Me) (o : E) (es : List E)
  | call (f : String) (es : List E) | mcall (o : E) (x : String) (es : List E)
  | comp (isO : Bool) (free : List String) (t : TL) (it : I) (ifs : List E) (elt : E)
  | frz (e : E)
inductive I where
  | over (e : E) | zip (a b : E)
end
inductive T where
  | tl (t : TL)
  | attr (e : E) (x : String)
  | sub (e i : E)
inductive St where
  | assign (t : T) (e : E)
  | expr (e : E)
  | ret (e : E)
  | ret0
  | cond (c : E) (a b : List St)
  | while (c : E) (b : List St)
  | for (t : TL) (it : I) (b : List St)
  | pass
  | brk
noncomputable def onTtl (x : T) (k : TL → Bool) : Bool := if h : x.ctorIdx = 0 then T.tl.elim (motive := fun _ => Bool) x h k else false
theorem onTtl_of {x : T} {k : TL → Bool} {C : T → Prop} (hc : onTtl x k = true) (m : ∀ a, k a = true → C (.tl a)) : C x :=
  let ⟨hp, h⟩ := dif_of hc
  T.tl.elim (motive := fun x => ∀ hp : x.ctorIdx = 0, T.tl.elim (motive := fun _ => Bool) x hp k = true → C x) x hp (fun a _ h => m a h) hp h
noncomputable def onTLname (x : TL) (k : String → Bool) : Bool := if h : x.ctorIdx = 0 then TL.name.elim (motive := fun _ => Bool) x h k else false
theorem onTLname_of {x : TL} {k : String → Bool} {C : TL → Prop} (hc : onTLname x k = true) (m : ∀ a, k a = true → C (.name a)) : C x :=
  let ⟨hp, h⟩ := dif_of hc
  TL.name.elim (motive := fun x => ∀ hp : x.ctorIdx = 0, TL.name.elim (motive := fun _ => Bool) x hp k = true → C x) x hp (fun a _ h => m a h) hp h
noncomputable def onTLnames (x : TL) (k : List String → Bool) : Bool := if h : x.ctorIdx = 1 then TL.names.elim (motive := fun _ => Bool) x h k else false
theorem onTLnames_of {x : TL} {k : List String → Bool} {C : TL → Prop} (hc : onTLnames x k = true) (m : ∀ a, k a = true → C (.names a)) : C x :=
  let ⟨hp, h⟩ := dif_of hc
  TL.names.elim (motive := fun x => ∀ hp : x.ctorIdx = 1, TL.names.elim (motive := fun _ => Bool) x hp k = true → C x) x hp (fun a _ h => m a h) hp h
noncomputable def onEcomp (x : E) (k : Bool → List String → TL → I → List E → E → Bool) : Bool := if h : x.ctorIdx = 23 then E.comp.elim (motive_1 := fun _ => Bool) x h k else false
theorem onEcomp_of {x : E} {k : Bool → List String → TL → I → List E → E → Bool} {C : E → Prop} (hc : onEcomp x k = true) (m : ∀ a b c d e f, k a b c d e f = true → C (.comp a b c d e f)) : C x :=
  let ⟨hp, h⟩ := dif_of hc
  E.comp.elim (motive_1 := fun x => ∀ hp : x.ctorIdx = 23, E.comp.elim (motive_1 := fun _ => Bool) x hp k = true → C x) x hp (fun a b c d e f _ h => m a b c d e f h) hp h
/-! ### does a tree of the model say the same -/
noncomputable def kindS (sc : Scope) (x : Str) : Option NameKind := sc.names.lookup x
noncomputable def relabelS (scope sc : Scope) : Scope :=
  { scope with names := scope.names.map fun (n, k) => if (k == .free && sc.kind == .function && kindS sc n == some .cell) then (n, .cell) else (n, k) }
theorem relabelS_eq (scope : Scope) (env : Env) : relabel scope env = relabelS scope env.scope := rfl
noncomputable def tlNames : TL → List String
  | .name x => [x]
  | .names xs => xs
noncomputable def chkNames : List String → List Expr → Bool
  | [], es => es.isEmpty
  | x :: xs, es => onC es fun e t => onName e fun s _ => (S x == s) && chkNames xs t
noncomputable def chkTL (t : TL) (x : Expr) : Bool := match t with
  | .name n => onName x fun s _ => S n == s
  | .names ns => onTuple x fun es _ _ => chkNames ns es
noncomputable def isLoc (sc : Scope) (x : String) : Bool := kindS sc (S x) == some .local
noncomputable def isBound (sc : Scope) (x : String) : Bool := kindS sc (S x) == some .local || kindS sc (S x) == some .cell
noncomputable def chkComp (sc scope : Scope) (free : List String) : Bool :=
  scope.kind == .function && scope.names.all (fun p => p.2 != .cell && (p.2 != .local || scope.names.lookup p.1 == some .local) && (p.2 != .free || free.any (fun y => S y == p.1))) &&
  free.all (fun y => scope.names.contains (S y, NameKind.free) && scope.names.lookup (S y) == some .free && (kindS sc (S y) == some .cell || kindS sc (S y) == some .free))
mutual
noncomputable def chkE (sc : Scope) : E → Expr → Bool
  | .none, x => onConstant x fun k _ _ => decide (k = .none)
  | .bool b, x => onConstant x fun k _ _ => decide (k = .bool b)
  | .int i, x => onConstant x fun k _ _ => decide (k = .int i)
  | .str s, x => onConstant x fun k _ _ => decide (k = .str (S s))
  | .var n, x => onName x fun s _ => (S n == s) && n != "__debug__" && n != "__classdict__"
  | .bin op l r, x => onBinOp x fun l' op' r' _ => op' == op.op && chkE sc l l' && chkE sc r r'
  | .cmp op l r, x => onCompare x fun l' ops rs _ => on1 ops fun op' => on1 rs fun r' => op' == op.op && chkE sc l l' && chkE sc r r'
  | .cx op l r, x => onCompare x fun l' ops rs _ => on1 ops fun op' => on1 rs fun r' => (op' == op.op && notSet r') && chkE sc l l' && chkE sc r r'
  | .and es, x => onBoolOp x fun o es' _ => decide (o = .And) && chkEs sc es es'
  | .or es, x => onBoolOp x fun o es' _ => decide (o = .Or) && chkEs sc es es'
  | .not e, x => onUnaryOp x fun o e' _ => decide (o = .Not) && chkE sc e e'
  | .neg e, x => onUnaryOp x fun o e' _ => decide (o = .USub) && chkE sc e e'
  | .ite t a b, x => onIfExp x fun t' a' b' _ => chkE sc t t' && chkE sc a a' && chkE sc b b'
  | .tup es, x => onTuple x fun es' _ _ => es'.all notStar && chkEs sc es es'
  | .lst _ es, x => onList x fun es' _ => es'.all notStar && chkEs sc es es'
  | .dict0, x => onDict x fun a b _ => a.isEmpty && b.isEmpty
  | .idx a b, x => onSubscript x fun a' b' _ => notSlice b' && chkE sc a a' && chkE sc b b'
  | .upto _ a b, x => onSubscript x fun a' s _ => onSlice s fun l u st _ => onS u fun b' => (l.isNone && st.isNone) && chkE sc a a' && chkE sc b b'
  | .attr e n, x => onAttribute x fun e' s _ => (S n == s) && notCall e' && chkE sc e e'
  | .bi b es, x => onCall x fun f es' kw _ => onName f fun s _ => ((S b.name == s) && kindS sc s == some .globalImplicit && kw.isEmpty) && (!es'.isEmpty && es'.all notStar) && chkEs sc es es'
  | .me m o es, x => onCall x fun f es' kw pos => onAttribute f fun o' s apos => ((S m.name == s) && notCall o' && kw.isEmpty) && (apos.endLine == pos.line && decide (es'.length < 29) && es'.all notStar) && (chkE sc o o' && chkEs sc es es')
  | .call f es, x => onCall x fun f' es' kw _ => onName f' fun s _ => ((S f == s) && f != "__debug__" && kw.isEmpty) && (kindS sc s == some .globalImplicit && es'.all notStar) && chkEs sc es es'
  | .mcall o n es, x => onCall x fun f es' kw pos => onAttribute f fun o' s apos => ((S n == s) && notCall o' && kw.isEmpty) && (apos.endLine == pos.line && decide (es'.length < 29) && es'.all notStar) && (chkE sc o o' && chkEs sc es es')
  | .comp _ free t it ifs elt, x => onListComp x fun elt' gs scope _ => on1 gs fun g => (chkComp sc scope free && chkTL t g.target && (tlNames t).all (fun y => isLoc (relabelS scope sc) y && !free.contains y)) && (decide (g.is_async = 0) && notSet g.iter && chkI sc (isTupT g.target) it g.iter) && (chkEs (relabelS scope sc) ifs g.ifs && chkE (relabelS scope sc) elt elt')
  | .frz e, x => chkE sc e x
noncomputable def chkEs (sc : Scope) : List E → List Expr → Bool
  | [], x => x.isEmpty
  | e :: es, x => onC x fun x xs => chkE sc e x && chkEs sc es xs
noncomputable def chkI (sc : Scope) (tt : Bool) : I → Expr → Bool
  | .over e, x => chkE sc e x
  | .zip a b, x => onCall x fun f es kw _ => onName f fun s _ => onC es fun a' es => on1 es fun b' => (tt && (S "zip" == s) && kw.isEmpty) && (kindS sc s == some .globalImplicit && [a', b'].all notStar) && (chkE sc a a' && chkE sc b b')
end
/-- a tree that is just a value -/
noncomputable def purely {α : Type} (t : Sem α) : Option α := if h : t.ctorIdx = 0 then Sem.pure.elim (motive := fun _ => Option α) t h (fun a => some a) else none
theorem purely_eq {α : Type} {t : Sem α} {a : α} (h : purely t = some a) : t = pure a := by
  by_cases hp : t.ctorIdx = 0
  · have h : (if h : t.ctorIdx = 0 then Sem.pure.elim (motive := fun _ => Option α) t h (fun a => some a) else none) = some a := h
    rw [dif_pos hp] at h
    exact Sem.pure.elim (motive := fun t => ∀ hp : t.ctorIdx = 0, Sem.pure.elim (motive := fun _ => Option α) t hp (fun a => some a) = some a → t = pure a) t hp (fun b _ h => by cases Option.some.inj h; rfl) hp h
  · have h : (if h : t.ctorIdx = 0 then Sem.pure.elim (motive := fun _ => Option α) t h (fun a => some a) else none) = some a := h
    rw [dif_neg hp] at h; cases h
noncomputable def env0 (sc : Scope) : Env := { scope := sc, locals := 0, globals := 0, cells := [], qual := ⟨#[]⟩, func := none, code := .none, frame := none, builtins := 0 }
theorem swaps_env (ts : List Expr) (v : Expr) (line : Nat) (env : Env) : swapsWithSole ts v line env = swapsWithSole ts v line (env0 env.scope) := by
  cases ts with
  | nil => rfl
  | cons t ts => cases ts with
    | nil => rfl
    | cons _ _ => rfl
theorem swaps_env0 (v : Expr) (t : Option Expr) (line : Nat) (env : Env) : swapsWith v t line env = swapsWith v t line (env0 env.scope) := rfl
theorem stores_env (ts : List Expr) (v : Expr) (env : Env) : swappedStores ts v env = swappedStores ts v (env0 env.scope) := rfl
noncomputable def nodupB : List String → Bool
  | [] => true
  | x :: xs => !xs.contains x && nodupB xs
noncomputable def chkT (sc : Scope) (t : T) (x : Expr) : Bool := match t with
  | .tl t => chkTL t x && (tlNames t).all (isBound sc)
  | .attr e n => onAttribute x fun e' s _ => (S n == s) && chkE sc e e'
  | .sub e i => onSubscript x fun e' i' _ => chkE sc e e' && chkE sc i i'
/-- how an assignment goes: plainly, by names that are stored from behind, by a comprehension whose value goes to a name -/
noncomputable def chkAssign (sc : Scope) (t : T) (e : E) (t' e' : Expr) (line : Nat) : Bool :=
  (notStar t' && chkT sc t t' && chkE sc e e') && onS (purely (swapsWithSole [t'] e' line (env0 sc))) fun b =>
    cond b (onTtl t fun tl => onTLname tl fun x => onEcomp e fun _ _ _ _ _ _ => isLoc sc x) (onS (purely (swappedStores [t'] e' (env0 sc))) fun o =>
      Option.rec (motive := fun _ => Bool) true (fun ss => onTtl t fun tl => onTLnames tl fun xs => (ss == xs.map S && nodupB xs) && xs.all (isLoc sc) && (xs.length == 2 || xs.length == 3)) o)
mutual
noncomputable def chkS (sc : Scope) : St → Stmt → Bool
  | .assign t e, x => onS_Assign x fun ts e' pos => on1 ts fun t' => chkAssign sc t e t' e' pos.line
  | .expr e, x => onS_Expr x fun e' pos => chkE sc e e' && purely (swapsWith e' none pos.line (env0 sc)) == some false
  | .ret e, x => onS_Return x fun o _ => onS o fun e' => chkE sc e e'
  | .ret0, x => onS_Return x fun o _ => o.isNone
  | .cond c a b, x => onS_If x fun c' a' b' _ => chkE sc c c' && chkSs sc a a' && chkSs sc b b'
  | .while c b, x => onS_While x fun c' b' e _ => e.isEmpty && chkE sc c c' && chkSs sc b b'
  | .for t it b, x => onS_For x fun t' it' b' e _ => (e.isEmpty && chkTL t t' && (tlNames t).all (isBound sc)) && (notSet it' && chkI sc (isTupT t') it it') && chkSs sc b b'
  | .pass, x => onS_Pass x fun _ => true
  | .brk, x => onS_Break x fun _ => true
noncomputable def chkSs (sc : Scope) : List St → List Stmt → Bool
  | [], x => x.isEmpty
  | e :: es, x => onC x fun x xs => chkS sc e x && chkSs sc es xs
end
/-! ### what is called -/
/-- a call of a function with such values ends so -/
noncomputable def CallV (c : Cx) (n : Nat) (f : Value) (σ : Sg) (vs : List V) (Q : V → Sg → Prop) : Prop :=
  ∀ A s R rs, Room n A → Inv c s.heap σ R → RelVs c s.heap (own σ R) vs rs → codeAny (model c.prog c.w) A (.call f ⟨rs, []⟩) (fun r s' => match r with | .ok (.ret rv) => PostE c σ R s Q rv s' | _ => False) s
/-- a name that is called -/
noncomputable def FnIs (c : Cx) (f : String) (fv : Value) : Prop := c.mg (S f) = some fv ∧ keepIn c.K fv = true
/-- a method that is called -/
noncomputable def MtIs (c : Cx) (cl x : String) (f : Addr) : Prop :=
  ∃ C, c.mg (S cl) = some (.ref C) ∧ plainGet c.K C (S x) = true ∧ findIn c.K (.ref C) (S x) = some (some (.ref f)) ∧ isFn c.K (.ref f) = true ∧ keepIn c.K (.ref f) = true
/-! ### what a tree does -/
noncomputable def bindT (t : TL) (v : V) (fr : Fm) : Option Fm := match t with
  | .name x => some (upd fr x v)
  | .names xs => match v with | .tup vs => if xs.length = vs.length then some (updsL fr xs vs) else none | _ => none
noncomputable def loopC (step : V → Sg → (Option V → Sg → Prop) → Prop) : List V → List V → Sg → (List V → Sg → Prop) → Prop
  | [], acc, σ, Q => Q acc σ
  | x :: xs, acc, σ, Q => step x σ fun o σ' => loopC step xs (acc ++ o.toList) σ' Q
noncomputable def del (σ : Sg) (a : Addr) : Sg := fun b => if b = a then none else σ b
noncomputable def wFrz (σ : Sg) (v : V) (Q : V → Sg → Prop) : Prop := match v with
  | .ref a => ∃ l, σ a = some (.list l) ∧ Q (.list l) (del σ a)
  | _ => False
section
variable (P : Pg) (c : Cx) (n : Nat)
mutual
noncomputable def wE : E → Fm → Sg → (V → Sg → Prop) → Prop
  | .none, fr, σ, Q => Q .none σ
  | .bool b, fr, σ, Q => Q (.bool b) σ
  | .int i, fr, σ, Q => Q (.int i) σ
  | .str s, fr, σ, Q => Q (.str s) σ
  | .var x, fr, σ, Q => ∃ v, fr x = some v ∧ Q v σ
  | .bin op l r, fr, σ, Q => wE l fr σ fun a σ₁ => wE r fr σ₁ fun b σ₂ => wBin op a b fun v => Q v σ₂
  | .cmp op l r, fr, σ, Q => wE l fr σ fun a σ₁ => wE r fr σ₁ fun b σ₂ => wCmp op a b fun v => Q (.bool v) σ₂
  | .cx op l r, fr, σ, Q => wE l fr σ fun a σ₁ => wE r fr σ₁ fun b σ₂ => wCx σ₂ op a b fun v => Q (.bool v) σ₂
  | .and es, fr, σ, Q => wAnd true es fr σ Q
  | .or es, fr, σ, Q => wAnd false es fr σ Q
  | .not e, fr, σ, Q => wE e fr σ fun v σ₁ => wTruth v fun b => Q (.bool !b) σ₁
  | .neg e, fr, σ, Q => wE e fr σ fun v σ₁ => match v with | .int i => Q (.int (-i)) σ₁ | _ => False
  | .ite t a b, fr, σ, Q => wB t fr σ fun x σ₁ => if x = true then wE a fr σ₁ Q else wE b fr σ₁ Q
  | .tup es, fr, σ, Q => wEs es fr σ fun vs σ₁ => vs.length ≤ sizeLine ∧ Q (.tup vs) σ₁
  | .lst isO es, fr, σ, Q => wEs es fr σ fun vs σ₁ => vs.length ≤ sizeLine ∧ QL isO Q vs σ₁
  | .dict0, fr, σ, Q => ∀ a, σ a = none → Q (.ref a) (upd σ a (.dict []))
  | .idx a b, fr, σ, Q => wE a fr σ fun va σ₁ => wE b fr σ₁ fun vb σ₂ => wIdx σ₂ va vb fun v => Q v σ₂
  | .upto isO a b, fr, σ, Q => wE a fr σ fun va σ₁ => wE b fr σ₁ fun vb σ₂ => match vb with
    | .int j => 0 ≤ j ∧ ∃ l, asList σ₂ va = some l ∧ QL isO Q (l.take j.toNat) σ₂
    | _ => False
  | .attr e x, fr, σ, Q => wE e fr σ fun v σ₁ => wAttr P σ₁ x v fun w => Q w σ₁
  | .bi b es, fr, σ, Q => wEs es fr σ fun vs σ₁ => wBi σ₁ b vs Q
  | .me m o es, fr, σ, Q => wE o fr σ fun v σ₁ => m.self σ₁ v ∧ wEs es fr σ₁ fun vs σ₂ => wMe σ₂ m v vs Q
  | .call f es, fr, σ, Q => ∃ fv, FnIs c f fv ∧ wEs es fr σ fun vs σ₁ => CallV c n fv σ₁ vs Q
  | .mcall o x es, fr, σ, Q => wE o fr σ fun v σ₁ => match v with
    | .obj cl d => ∃ f, MtIs c cl x f ∧ (∃ l, σ₁ d = some (.ns l) ∧ l.lookup x = none) ∧ wEs es fr σ₁ fun vs σ₂ => CallV c n (.ref f) σ₂ (.obj cl d :: vs) Q
    | _ => False
  | .comp isO free t it ifs elt, fr, σ, Q => (∀ y ∈ free, (fr y).isSome) ∧ wI it fr σ fun xs σ₁ => loopC (fun x σ K => ∃ fr₁, bindT t x (capt free fr) = some fr₁ ∧ wAll true ifs fr₁ σ fun b σ₂ => if b = true then wE elt fr₁ σ₂ fun v σ₃ => K (some v) σ₃ else K Option.none σ₂) xs [] σ₁ (QL isO Q)
  | .frz e, fr, σ, Q => wE e fr σ fun v σ₁ => wFrz σ₁ v Q
noncomputable def wEs : List E → Fm → Sg → (List V → Sg → Prop) → Prop
  | [], fr, σ, Q => Q [] σ
  | e :: es, fr, σ, Q => wE e fr σ fun v σ₁ => wEs es fr σ₁ fun vs σ₂ => Q (v :: vs) σ₂
noncomputable def wAnd (isAnd : Bool) : List E → Fm → Sg → (V → Sg → Prop) → Prop
  | [], _, _, _ => False
  | e :: es, fr, σ, Q => wE e fr σ fun v σ₁ => match es with
    | [] => Q v σ₁
    | _ => wTruth v fun b => if b = isAnd then wAnd isAnd es fr σ₁ Q else Q v σ₁
noncomputable def wB : E → Fm → Sg → (Bool → Sg → Prop) → Prop
  | .not e, fr, σ, Q => wB e fr σ fun b σ₁ => Q (!b) σ₁
  | .and es, fr, σ, Q => wAll true es fr σ Q
  | .or es, fr, σ, Q => wAll false es fr σ Q
  | .cmp op l r, fr, σ, Q => wE l fr σ fun a σ₁ => wE r fr σ₁ fun b σ₂ => wCmp op a b fun v => Q v σ₂
  | .cx op l r, fr, σ, Q => wE l fr σ fun a σ₁ => wE r fr σ₁ fun b σ₂ => wCx σ₂ op a b fun v => Q v σ₂
  | .var x, fr, σ, Q => ∃ v, fr x = some v ∧ wTruth v fun b => Q b σ
  | .attr e x, fr, σ, Q => wE e fr σ fun v σ₁ => wAttr P σ₁ x v fun w => wTruth w fun b => Q b σ₁
  | .call f es, fr, σ, Q => ∃ fv, FnIs c f fv ∧ wEs es fr σ fun vs σ₁ => CallV c n fv σ₁ vs fun v σ₂ => wTruth v fun b => Q b σ₂
  | .mcall o x es, fr, σ, Q => wE o fr σ fun v σ₁ => match v with
    | .obj cl d => ∃ f, MtIs c cl x f ∧ (∃ l, σ₁ d = some (.ns l) ∧ l.lookup x = none) ∧ wEs es fr σ₁ fun vs σ₂ => CallV c n (.ref f) σ₂ (.obj cl d :: vs) fun v σ₃ => wTruth v fun b => Q b σ₃
    | _ => False
  | _, _, _, _ => False
noncomputable def wAll (isAnd : Bool) : List E → Fm → Sg → (Bool → Sg → Prop) → Prop
  | [], _, σ, Q => Q isAnd σ
  | e :: es, fr, σ, Q => wB e fr σ fun b σ₁ => if b = isAnd then wAll isAnd es fr σ₁ Q else Q b σ₁
noncomputable def wI : I → Fm → Sg → (List V → Sg → Prop) → Prop
  | .over e, fr, σ, Q => wE e fr σ fun v σ₁ => ∃ xs, itemsOf σ₁ v = some xs ∧ Q xs σ₁
  | .zip a b, fr, σ, Q => wE a fr σ fun va σ₁ => wE b fr σ₁ fun vb σ₂ => ∃ la lb, va = .list la ∧ vb = .list lb ∧ Q (zipV la lb) σ₂
end
noncomputable def wT (t : T) (v : V) (fr : Fm) (σ : Sg) (Q : Fm → Sg → Prop) : Prop := match t with
  | .tl t => ∃ fr', bindT t v fr = some fr' ∧ Q fr' σ
  | .attr e x => wE P c n e fr σ fun o σ₁ => wSetAttr P σ₁ x v o fun σ₂ => Q fr σ₂
  | .sub e i => wE P c n e fr σ fun o σ₁ => wE P c n i fr σ₁ fun vi σ₂ => wSet σ₂ v o vi fun σ₃ => Q fr σ₃
noncomputable def loopS (t : TL) (body : Fm → Sg → (Fl → Fm → Sg → Prop) → Prop) : List V → Fm → Sg → (Fl → Fm → Sg → Prop) → Prop
  | [], fr, σ, Q => Q .next fr σ
  | x :: xs, fr, σ, Q => ∃ fr₁, bindT t x fr = some fr₁ ∧ body fr₁ σ fun fl fr₂ σ₂ => match fl with
    | .next => loopS t body xs fr₂ σ₂ Q
    | .brk => Q .next fr₂ σ₂
    | .ret v => Q (.ret v) fr₂ σ₂
mutual
noncomputable def wS : St → Fm → Sg → (Fl → Fm → Sg → Prop) → Prop
  | .assign t e, fr, σ, Q => wE P c n e fr σ fun v σ₁ => wT P c n t v fr σ₁ fun fr₂ σ₂ => Q .next fr₂ σ₂
  | .expr e, fr, σ, Q => wE P c n e fr σ fun _ σ₁ => Q .next fr σ₁
  | .ret e, fr, σ, Q => wE P c n e fr σ fun v σ₁ => Q (.ret v) fr σ₁
  | .ret0, fr, σ, Q => Q (.ret .none) fr σ
  | .cond t a b, fr, σ, Q => wB P c n t fr σ fun x σ₁ => if x = true then wSs a fr σ₁ Q else wSs b fr σ₁ Q
  | .while t b, fr, σ, Q => ∃ (J : Nat → Fm → Sg → Prop) (k : Nat), J k fr σ ∧ ∀ k fr σ, J k fr σ → wB P c n t fr σ fun x σ₁ => if x = true then wSs b fr σ₁ fun fl fr₂ σ₂ => match fl with
      | .next => ∃ m, m < k ∧ J m fr₂ σ₂
      | .brk => Q .next fr₂ σ₂
      | .ret v => Q (.ret v) fr₂ σ₂
    else Q .next fr σ₁
  | .for t it b, fr, σ, Q => wI P c n it fr σ fun xs σ₁ => loopS t (fun fr σ K => wSs b fr σ K) xs fr σ₁ Q
  | .pass, fr, σ, Q => Q .next fr σ
  | .brk, fr, σ, Q => Q .brk fr σ
noncomputable def wSs : List St → Fm → Sg → (Fl → Fm → Sg → Prop) → Prop
  | [], fr, σ, Q => Q .next fr σ
  | x :: xs, fr, σ, Q => wS x fr σ fun fl fr₁ σ₁ => match fl with
    | .next => wSs xs fr₁ σ₁ Q
    | fl => Q fl fr₁ σ₁
end
end
end PyW
namespace PyW
section
variable {c : Cx} {P : Pg} {n : Nat} {env : Env} {fr : Fm} {σ : Sg} {pos : Pos} {k : Nat}
/-! ### calls of names, of methods -/
theorem sem_call (O : CxOK P c) {Q : V → Sg → Prop} {f : String} {p : Pos} {es : List Expr} {fv : Value} (hf : FnIs c f fv) (hd : f ≠ "__debug__") (hk : env.kindOf (S f) = some .globalImplicit) (hs : ∀ x ∈ es, notStar x = true)
    (h : SemL c n env pos es fr σ fun vs σ₁ => CallV c n fv σ₁ vs Q) : SemE c n env (.Call (.Name (S f) p) es [] pos) fr σ Q := by
  intro A s R hR I F
  show wpAny _ _ _ _ _ _
  rw [arm_eval_Call_Name']
  refine wpAny_bind (glob_any O I F hk (S_ne hd) (.inl hf.1) ?_)
  have pl := starEach_any (pos := pos) (env := env) hs
  have core := PostG.then (β := Value) (K := fun vs s₁ => c.K.In s₁.heap ∧ wpAny (model c.prog c.w) A (call fv vs) (PostE c σ R s Q) (fun _ _ => False) s₁) (h A s R hR I F) fun rs h₁ t₁ σ₁ I₁ X₁ q => by
    obtain ⟨vs, r, q⟩ := q
    refine ⟨Inv.X O I₁, wpAny_call (codeAny_mono (q A { s with heap := h₁, toks := t₁ } R rs hR I₁ r) fun r s' z => ?_)⟩
    rcases r with e | (v | _ | _ | _) <;> first | exact z.elim | exact PostE.trans (s := s) (t₁ := t₁) X₁ z
  show wpAny _ _ (callWith pos fv [] (backTo pos (starEach es env)) []) _ _ _
  refine callWith_of (P := c.K.In) (by rw [pl]; rfl) (keeps_K hf.2) ?_
  cases es with
  | nil =>
    unfold evalArgs
    show wpAny _ _ (spliced [] >>= _) _ _ _
    refine wpAny_bind (wpAny_mono core (fun vs s' h' => ?_) fun _ _ f => f)
    refine wpAny_bind (wpAny_pure ?_)
    refine wpAny_holding ?_
    exact wpAny_bind (wpAny_pure (wpAny_bind (wpAny_pure (wpAny_pure h'))))
  | cons e es =>
    rw [starEach_cons (hs e (.head _))] at core ⊢
    exact evalArgs_plain core
theorem sem_mcall (O : CxOK P c) {Q : V → Sg → Prop} {o : Expr} {x : String} {apos : Pos} {es : List Expr} (ho : notCall o = true) (hs : ∀ x ∈ es, notStar x = true) (hl : es.length < 29) (hline : (apos.endLine == pos.line) = true)
    (h : SemE c n env o fr σ fun v σ₁ => ∃ cl d f, v = .obj cl d ∧ MtIs c cl x f ∧ (∃ l, σ₁ d = some (.ns l) ∧ l.lookup x = none) ∧ SemL c n env pos es fr σ₁ fun vs σ₂ => CallV c n (.ref f) σ₂ (v :: vs) Q) :
    SemE c n env (.Call (.Attribute o (S x) apos) es [] pos) fr σ Q := by
  intro A s R hR I F
  show wpAny _ _ _ _ _ _
  rw [arm_eval_Call, attrBase ho]
  refine wpAny_bind ((h A s R hR I F).then fun rv h₁ t₁ v σ₁ I₁ X₁ v_ q => wpAny_bind (wpAny_standAt ?_))
  obtain ⟨cl, d, f, rfl, ⟨C, m1, m2, m3, m4, m5⟩, ⟨l, e, hn⟩, q⟩ := q
  have v' := v_
  simp only [RelV] at v'
  obtain ⟨a, C', rfl, k1, g1, g2⟩ := v'
  rw [m1] at k1; cases k1
  obtain ⟨es', m, i1, i2, i3, i4⟩ := inst_at I₁ g1 e
  have hform : methodCallForm (es.length + ([] : List Keyword).length) (backTo pos (starEach es env)) (backToKw pos (keywordEach [] env)) = true := by
    show ((backTo pos (starEach es env)).all (fun x => !x.1) && (backToKw pos (keywordEach [] env)).all (fun x => x.1.isSome) && decide (es.length + 0 + 0 < 30)) = true
    rw [all_plain hs]
    show (true && true && decide (es.length + 0 + 0 < 30)) = true
    simp; omega
  have hpos : methodCallPos true o env apos pos = pure pos := by unfold methodCallPos; simp [hline]
  unfold methodCall
  rw [hform]
  refine wpAny_bind (wpAny_holding (method_fn (s := { s with heap := h₁, toks := t₁ }) (Inv.X O I₁) i4 (plainGet_of m2).1 (plainGet_of m2).2 m3 (beq_iff_eq.mp m4)
    (by show (lookIn (S x) (dictOf es' m)).map _ = _; rw [lookIn_dict, i3.getNone hn]; rfl) ?_))
  refine wpAny_bind (wpAny_of_eq hpos ?_)
  have pl := starEach_any (pos := pos) (env := env) hs
  have core := PostG.then (β := Value) (K := fun vs s₁ => c.K.In s₁.heap ∧ wpAny (model c.prog c.w) A (call (.ref f) ([.ref a] ++ vs)) (PostE c σ R s Q) (fun _ _ => False) s₁) (q A { s with heap := h₁, toks := t₁ } R hR I₁ (F.ext X₁)) fun rs h₂ t₂ σ₂ I₂ X₂ q => by
    obtain ⟨vs, r, q⟩ := q
    refine ⟨Inv.X O I₂, wpAny_call (codeAny_mono (q A { s with heap := h₂, toks := t₂ } R (.ref a :: rs) hR I₂ (.cons (v_.ext X₂) r)) fun r s' z => ?_)⟩
    rcases r with e | (v | _ | _ | _) <;> first | exact z.elim | exact PostE.trans (s := s) (t₁ := t₂) (X₁.trans X₂) z
  show wpAny _ _ (callWith pos (.ref f) [.ref a] (backTo pos (starEach es env)) []) _ _ _
  refine callWith_of (P := c.K.In) (by rw [pl]; rfl) (keeps_K m5) ?_
  cases es with
  | nil =>
    unfold evalArgs
    show wpAny _ _ (spliced [] >>= _) _ _ _
    refine wpAny_bind (wpAny_mono (s := { s with heap := h₁, toks := t₁ }) core (fun vs s' h' => ?_) fun _ _ f => f)
    refine wpAny_bind (wpAny_pure ?_)
    refine wpAny_holding ?_
    exact wpAny_bind (wpAny_pure (wpAny_bind (wpAny_pure (wpAny_pure h'))))
  | cons e es =>
    rw [starEach_cons (hs e (.head _))] at core ⊢
    exact evalArgs_plain core
/-! ### an owned list that stands for good from here on -/
theorem sem_frz {Q : V → Sg → Prop} {e : Expr} (h : SemE c n env e fr σ fun v σ₁ => wFrz σ₁ v Q) : SemE c n env e fr σ Q := by
  intro A s R hR I F
  refine (h A s R hR I F).then fun rv h₁ t₁ v σ₁ I₁ X₁ v_ q => ?_
  unfold wFrz at q
  split at q
  · rename_i a
    obtain ⟨l, e, q⟩ := q
    simp only [RelV] at v_; subst v_
    obtain ⟨ob, g, arr, m, rfl, g0, g1⟩ := I₁.objs _ _ e
    have sub : ∀ b o, del σ₁ a b = some o → σ₁ b = some o := fun b o z => by
      unfold del at z
      split at z
      · cases z
      · exact z
    have X₂ : Ext h₁ (own σ₁ R) h₁ (own (del σ₁ a) R) := Ext.less sub
    refine ⟨h₁, t₁, .list l, _, rfl, I₁.less sub, X₁.trans X₂, ?_, q⟩
    simp only [RelV]
    refine ⟨a, arr, m, rfl, g, fun w => ?_, g0, g1.ext X₂⟩
    rcases w with w | w
    · simp [del] at w
    · exact w (I₁.disj _ _ e)
  · exact q.elim
/-! ### targets -/
theorem chkNames_star : ∀ {xs : List String} {es : List Expr}, chkNames xs es = true → (∀ t ∈ es, notStar t = true) ∧ es.length = xs.length
  | [], es, hc => by
    cases List.isEmpty_iff.mp hc
    exact ⟨fun _ h => (nomatch h), rfl⟩
  | x :: xs, es, hc => by
    refine onC_of (C := fun es => (∀ t ∈ es, notStar t = true) ∧ es.length = (x :: xs).length) hc fun e t h1 => ?_
    refine onName_of (C := fun e => (∀ t' ∈ e :: t, notStar t' = true) ∧ (e :: t).length = (x :: xs).length) h1 fun s p h2 => ?_
    obtain ⟨a, b⟩ := chkNames_star (a2 h2).2
    exact ⟨fun t ht => (List.mem_cons.mp ht).elim (fun q => by rw [q]; rfl) (a t), congrArg Nat.succ b⟩
theorem semTL_names {Q : Fm → Sg → Prop} : ∀ {xs : List String} {es : List Expr} {vs : List V} {fr : Fm}, chkNames xs es = true → (∀ x ∈ xs, env.kindOf (S x) = some .local) → xs.length = vs.length → Q (updsL fr xs vs) σ → SemTLs c n env es vs fr σ Q
  | [], es, [], fr, hc, hk, hl, q => by
    cases List.isEmpty_iff.mp hc
    exact q
  | x :: xs, es, v :: vs, fr, hc, hk, hl, q => by
    refine onC_of (C := fun es => SemTLs c n env es (v :: vs) fr σ Q) hc fun e t h1 => ?_
    refine onName_of (C := fun e => SemTLs c n env (e :: t) (v :: vs) fr σ Q) h1 fun s p h2 => ?_
    cases eq_of_beq (a2 h2).1
    exact semTL_name (hk x (.head _)) (semTL_names (a2 h2).2 (fun y hy => hk y (.tail _ hy)) (Nat.succ.inj hl) q)
theorem semT_names {Q : Fm → Sg → Prop} : ∀ {xs : List String} {es : List Expr} {vs : List V} {fr : Fm}, chkNames xs es = true → (∀ x ∈ xs, env.kindOf (S x) = some .local ∨ env.kindOf (S x) = some .cell) → xs.length = vs.length → Q (updsL fr xs vs) σ → SemTs c n env es vs fr σ Q
  | [], es, [], fr, hc, hk, hl, q => by
    cases List.isEmpty_iff.mp hc
    exact q
  | x :: xs, es, v :: vs, fr, hc, hk, hl, q => by
    refine onC_of (C := fun es => SemTs c n env es (v :: vs) fr σ Q) hc fun e t h1 => ?_
    refine onName_of (C := fun e => SemTs c n env (e :: t) (v :: vs) fr σ Q) h1 fun s p h2 => ?_
    cases eq_of_beq (a2 h2).1
    exact semT_name (hk x (.head _)) (semT_names (a2 h2).2 (fun y hy => hk y (.tail _ hy)) (Nat.succ.inj hl) q)
theorem bindT_names {ys : List String} {v : V} {fr' : Fm} (hb : bindT (.names ys) v fr = some fr') : ∃ vs, v = .tup vs ∧ ys.length = vs.length ∧ fr' = updsL fr ys vs := by
  cases v with
  | tup vs =>
    by_cases hl : ys.length = vs.length
    · refine ⟨vs, rfl, hl, ?_⟩
      have hb : (if ys.length = vs.length then some (updsL fr ys vs) else none) = some fr' := hb
      rw [if_pos hl] at hb; exact (Option.some.inj hb).symm
    · have hb : (if ys.length = vs.length then some (updsL fr ys vs) else none) = some fr' := hb
      rw [if_neg hl] at hb; cases hb
  | _ => cases hb
theorem snd_TL {Q : Fm → Sg → Prop} {t : TL} {x : Expr} {v : V} {fr' : Fm} (hc : chkTL t x = true) (hk : ∀ y ∈ tlNames t, env.kindOf (S y) = some .local) (hb : bindT t v fr = some fr') (q : Q fr' σ) : SemTL c n env x v fr σ Q := by
  cases t with
  | name y =>
    refine onName_of (C := fun x => SemTL c n env x v fr σ Q) hc fun s p h1 => ?_
    cases eq_of_beq h1
    cases Option.some.inj hb
    exact semTL_name (hk y (.head _)) q
  | names ys =>
    refine onTuple_of (C := fun x => SemTL c n env x v fr σ Q) hc fun es k p h1 => ?_
    obtain ⟨vs, rfl, hl, rfl⟩ := bindT_names hb
    obtain ⟨a, b⟩ := chkNames_star h1
    exact semTL_tup a (b.trans hl) (semTL_names h1 hk hl q)
theorem snd_T1 {Q : Fm → Sg → Prop} {t : TL} {x : Expr} {v : V} {fr' : Fm} (hc : chkTL t x = true) (hk : ∀ y ∈ tlNames t, env.kindOf (S y) = some .local ∨ env.kindOf (S y) = some .cell) (hb : bindT t v fr = some fr') (q : Q fr' σ) : SemT c n env x v fr σ Q := by
  cases t with
  | name y =>
    refine onName_of (C := fun x => SemT c n env x v fr σ Q) hc fun s p h1 => ?_
    cases eq_of_beq h1
    cases Option.some.inj hb
    exact semT_name (hk y (.head _)) q
  | names ys =>
    refine onTuple_of (C := fun x => SemT c n env x v fr σ Q) hc fun es k p h1 => ?_
    obtain ⟨vs, rfl, hl, rfl⟩ := bindT_names hb
    obtain ⟨a, b⟩ := chkNames_star h1
    exact semT_tup a (b.trans hl) (semT_names h1 hk hl q)
theorem updsL_off : ∀ {xs : List String} {vs : List V} {fr : Fm} {y : String}, y ∉ xs → updsL fr xs vs y = fr y
  | [], _, _, _, _ => rfl
  | _ :: _, [], _, _, _ => rfl
  | x :: xs, v :: vs, fr, y, h => by
    unfold updsL
    have hne : y ≠ x := fun q => h (by rw [q]; exact .head _)
    rw [updsL_off (fun q => h (.tail _ q)), upd_ne _ _ hne]
theorem bindT_sub {t : TL} {v : V} {free : List String} {fr fr₁ : Fm} (hb : bindT t v (capt free fr) = some fr₁) (hn : ∀ y ∈ tlNames t, y ∉ free) : ∀ y w, capt free fr y = some w → fr₁ y = some w := by
  intro y w e
  have hy : y ∈ free := by
    by_cases h : y ∈ free
    · exact h
    · have e : (if y ∈ free then fr y else none) = some w := e
      rw [if_neg h] at e; cases e
  have hny : y ∉ tlNames t := fun q => hn y q hy
  cases t with
  | name x =>
    cases Option.some.inj hb
    rw [upd_ne _ _ (fun q => hny (by rw [q]; exact .head _))]; exact e
  | names xs =>
    obtain ⟨vs, rfl, hl, rfl⟩ := bindT_names hb
    exact (updsL_off (xs := xs) hny).trans e
theorem SemAll.mono {isAnd : Bool} : ∀ {es : List Expr} {fr : Fm} {σ : Sg} {Q Q' : Bool → Sg → Prop}, SemAll c n env isAnd es fr σ Q → (∀ b σ, Q b σ → Q' b σ) → SemAll c n env isAnd es fr σ Q'
  | [], _, _, _, _, h, k => k _ _ h
  | e :: es, fr, σ, Q, Q', h, k => by
    unfold SemAll at h ⊢
    refine SemB.mono h fun b σ₁ z => ?_
    split at z
    · rename_i q; rw [if_pos q]; exact SemAll.mono z k
    · rename_i q; rw [if_neg q]; exact k _ _ z
theorem SemI.mono {tt : Bool} {e : Expr} {Q Q' : List V → Sg → Prop} (h : SemI c n env tt e fr σ Q) (k : ∀ xs σ, Q xs σ → Q' xs σ) : SemI c n env tt e fr σ Q' :=
  fun A s R a b d => wpAny_mono (h A s R a b d) (fun _ _ z => wpAny_mono z (fun _ _ p => by
    obtain ⟨h', tk, σ', z, wr, xs, St, rfl, zz, a, b, d, e, f, g, i, q⟩ := p
    exact ⟨h', tk, σ', z, wr, xs, St, rfl, zz, a, b, d, e, f, g, i, k _ _ q⟩) fun _ _ e => e) fun _ _ e => e
theorem comp_ok {scope : Scope} {free : List String} (h : chkComp env.scope scope free = true) : CompOK env scope free := by
  unfold chkComp at h
  simp only [Bool.and_eq_true, List.all_eq_true] at h
  obtain ⟨⟨h1, h2⟩, h3⟩ := h
  refine ⟨beq_iff_eq.mp h1, fun x hx => ?_, fun x hx e => ?_, fun x hx => ?_, fun y hy => ?_⟩
  · have := (h2 x hx).1.1; simpa using this
  · have := (h2 x hx).1.2; rw [e] at this; simpa using this
  · have := (h2 _ hx).2
    simp only [bne_self_eq_false, Bool.false_or, List.any_eq_true] at this
    obtain ⟨y, hy, z⟩ := this
    exact ⟨y, hy, (eq_of_beq z).symm⟩
  · obtain ⟨⟨a, b⟩, d⟩ := h3 y hy
    refine ⟨by simpa using a, by simpa using b, ?_⟩
    simp only [Bool.or_eq_true, beq_iff_eq] at d
    exact d
end
end PyW
namespace PyW
section
variable {c : Cx} {P : Pg} {n : Nat}
theorem S_of {x : String} {s : Str} (h : (S x == s) = true) : s = S x := (eq_of_beq h).symm
theorem allStar {es : List Expr} (h : es.all notStar = true) : ∀ x ∈ es, notStar x = true := List.all_eq_true.mp h
theorem QL_tup {env : Env} {k : Nat} {pos : Pos} {fr : Fm} {σ : Sg} {Q : V → Sg → Prop} {es : List Expr} {isO : Bool} (h : SemL c n env pos es fr σ fun vs σ₁ => vs.length ≤ sizeLine ∧ QL isO Q vs σ₁) : SemE c n env (.List es pos) fr σ Q := by
  cases isO with
  | false => exact sem_lst (h.mono fun vs σ z => ⟨z.1, by simpa [QL] using z.2⟩)
  | true => exact sem_lstO (h.mono fun vs σ z => ⟨z.1, by simpa [QL] using z.2⟩)
theorem semB_cmp' {env : Env} {pos : Pos} {fr : Fm} {σ : Sg} {Q : Bool → Sg → Prop} {l r : Expr} {op : CO} (h : SemE c n env l fr σ fun va σ₁ => SemE c n env r fr σ₁ fun vb σ₂ => wCmp op va vb fun v => Q v σ₂) : SemB c n env (.Compare l [op.op] [r] pos) fr σ Q := sem_cmpB h
theorem ite_of {b : Prop} [Decidable b] {A B A' B' : Prop} (h : if b then A else B) (k1 : A → A') (k2 : B → B') : if b then A' else B' := by
  by_cases q : b
  · rw [if_pos q] at h ⊢; exact k1 h
  · rw [if_neg q] at h ⊢; exact k2 h
theorem a22 {a b c d : Bool} (h : (a && b && (c && d)) = true) : (a = true ∧ b = true) ∧ c = true ∧ d = true := ⟨a2 (a2 h).1, a2 (a2 h).2⟩
theorem b_of {p : Prop} [Decidable p] (h : decide p = true) : p := of_decide_eq_true h
/-- the turns of a comprehension -/
theorem compL_ok {t : TL} {t' : Expr} {env : Env} {free : List String} {fr : Fm} {ifs' : List Expr} {elt' : Expr} {sc : Scope} {step1 : Fm → Sg → (Bool → Sg → Prop) → Prop} {step2 : Fm → Sg → (V → Sg → Prop) → Prop} {Q : List V → Sg → Prop} (hsc : env.scope = sc) (h2 : chkTL t t' = true) (h3 : (tlNames t).all (fun y => isLoc sc y && !free.contains y) = true)
    (s1 : ∀ fr σ Q, step1 fr σ Q → SemAll c n env true ifs' fr σ Q) (s2 : ∀ fr σ Q, step2 fr σ Q → SemE c n env elt' fr σ Q) :
    ∀ (xs acc : List V) (σ : Sg), loopC (fun x σ K => ∃ fr₁, bindT t x (capt free fr) = some fr₁ ∧ step1 fr₁ σ fun b σ₂ => if b = true then step2 fr₁ σ₂ fun v σ₃ => K (some v) σ₃ else K Option.none σ₂) xs acc σ Q → SemCL c n env t' ifs' elt' (capt free fr) xs acc σ Q
  | [], acc, σ, h => h
  | y :: ys, acc, σ, h => by
    obtain ⟨fr₁, hb, h⟩ := h
    have h3' := List.all_eq_true.mp h3
    subst hsc
    unfold SemCL
    refine snd_TL h2 (fun z hz => eq_of_beq (a2 (h3' z hz)).1) hb ⟨bindT_sub hb fun z hz => ?_, SemAll.mono (s1 _ _ _ h) fun b σ₂ z => ite_of z (fun z => (s2 _ _ _ z).mono fun v σ₃ z => compL_ok rfl h2 h3 s1 s2 ys _ _ z) fun z => ?_⟩
    · have := (a2 (h3' z hz)).2
      simpa using this
    · have z := compL_ok rfl h2 h3 s1 s2 ys _ _ z
      rw [show acc ++ Option.none.toList = acc from List.append_nil acc] at z
      exact z
set_option maxHeartbeats 4000000 in
mutual
theorem snd_E (O : CxOK P c) : ∀ (e : E) {x : Expr} {env : Env} {fr : Fm} {σ : Sg} {Q : V → Sg → Prop}, chkE env.scope e x = true → wE P c n e fr σ Q → SemE c n env x fr σ Q
  | .none, x, env, fr, σ, Q, hc, h => onConstant_of (C := (SemE c n env · fr σ Q)) hc fun k _ _ hk => by rw [b_of hk]; exact sem_none h
  | .bool b, x, env, fr, σ, Q, hc, h => onConstant_of (C := (SemE c n env · fr σ Q)) hc fun k _ _ hk => by rw [b_of hk]; exact sem_bool h
  | .int i, x, env, fr, σ, Q, hc, h => onConstant_of (C := (SemE c n env · fr σ Q)) hc fun k _ _ hk => by rw [b_of hk]; exact sem_int h
  | .str s, x, env, fr, σ, Q, hc, h => onConstant_of (C := (SemE c n env · fr σ Q)) hc fun k _ _ hk => by rw [b_of hk]; exact sem_str h
  | .var y, x, env, fr, σ, Q, hc, h => onName_of (C := (SemE c n env · fr σ Q)) hc fun s _ hk => by
    obtain ⟨h1, h2, h3⟩ := a3 hk
    rw [S_of h1]
    obtain ⟨v, e, q⟩ := h
    exact sem_var e q (bne_iff_ne.mp h2) (bne_iff_ne.mp h3)
  | .bin op l r, x, env, fr, σ, Q, hc, h => onBinOp_of (C := (SemE c n env · fr σ Q)) hc fun l' op' r' _ hk => by
    obtain ⟨h1, h2, h3⟩ := a3 hk
    rw [eq_of_beq h1]
    exact sem_bin ((snd_E O l h2 h).mono fun a σ₁ h => snd_E O r h3 h)
  | .cmp op l r, x, env, fr, σ, Q, hc, h => onCompare_of (C := (SemE c n env · fr σ Q)) hc fun l' ops rs pos hk => on1_of (C := fun ops => SemE c n env (.Compare l' ops rs pos) fr σ Q) hk fun op' hk => on1_of (C := fun rs => SemE c n env (.Compare l' [op'] rs pos) fr σ Q) hk fun r' hk => by
    obtain ⟨h1, h2, h3⟩ := a3 hk
    rw [eq_of_beq h1]
    exact sem_cmp ((snd_E O l h2 h).mono fun a σ₁ h => snd_E O r h3 h)
  | .cx op l r, x, env, fr, σ, Q, hc, h => onCompare_of (C := (SemE c n env · fr σ Q)) hc fun l' ops rs pos hk => on1_of (C := fun ops => SemE c n env (.Compare l' ops rs pos) fr σ Q) hk fun op' hk => on1_of (C := fun rs => SemE c n env (.Compare l' [op'] rs pos) fr σ Q) hk fun r' hk => by
    obtain ⟨h1, h2, h3⟩ := a3 hk
    rw [eq_of_beq (a2 h1).1]
    exact sem_cx (a2 h1).2 ((snd_E O l h2 h).mono fun a σ₁ h => snd_E O r h3 h)
  | .and es, x, env, fr, σ, Q, hc, h => onBoolOp_of (C := (SemE c n env · fr σ Q)) hc fun o _ _ hk => by rw [b_of (a2 hk).1]; exact sem_and (snd_And O true es (a2 hk).2 h)
  | .or es, x, env, fr, σ, Q, hc, h => onBoolOp_of (C := (SemE c n env · fr σ Q)) hc fun o _ _ hk => by rw [b_of (a2 hk).1]; exact sem_or (snd_And O false es (a2 hk).2 h)
  | .not e, x, env, fr, σ, Q, hc, h => onUnaryOp_of (C := (SemE c n env · fr σ Q)) hc fun o _ _ hk => by rw [b_of (a2 hk).1]; exact sem_not (snd_E O e (a2 hk).2 h)
  | .neg e, x, env, fr, σ, Q, hc, h => onUnaryOp_of (C := (SemE c n env · fr σ Q)) hc fun o _ _ hk => by rw [b_of (a2 hk).1]; exact sem_neg (snd_E O e (a2 hk).2 h)
  | .ite t a b, x, env, fr, σ, Q, hc, h => onIfExp_of (C := (SemE c n env · fr σ Q)) hc fun _ _ _ _ hk => by
    obtain ⟨h1, h2, h3⟩ := a3 hk
    exact sem_ite ((snd_B O t h1 h).mono fun v σ₁ h => ite_of h (fun h => snd_E O a h2 h) fun h => snd_E O b h3 h)
  | .tup es, x, env, fr, σ, Q, hc, h => onTuple_of (C := (SemE c n env · fr σ Q)) hc fun _ _ _ hk => sem_tup (snd_Es O es (a2 hk).2 (a2 hk).1 h)
  | .lst isO es, x, env, fr, σ, Q, hc, h => onList_of (C := (SemE c n env · fr σ Q)) hc fun _ _ hk => QL_tup (k := 0) (snd_Es O es (a2 hk).2 (a2 hk).1 h)
  | .dict0, x, env, fr, σ, Q, hc, h => onDict_of (C := (SemE c n env · fr σ Q)) hc fun _ _ _ hk => by
    cases List.isEmpty_iff.mp (a2 hk).1; cases List.isEmpty_iff.mp (a2 hk).2; exact sem_dict0 h
  | .idx a b, x, env, fr, σ, Q, hc, h => onSubscript_of (C := (SemE c n env · fr σ Q)) hc fun _ _ _ hk => by
    obtain ⟨h1, h2, h3⟩ := a3 hk
    exact sem_idx h1 ((snd_E O a h2 h).mono fun v σ₁ h => snd_E O b h3 h)
  | .upto isO a b, x, env, fr, σ, Q, hc, h => onSubscript_of (C := (SemE c n env · fr σ Q)) hc fun a' s pos hk => onSlice_of (C := fun s => SemE c n env (.Subscript a' s pos) fr σ Q) hk fun l u st p hk => onS_of (C := fun u => SemE c n env (.Subscript a' (.Slice l u st p) pos) fr σ Q) hk fun b' hk => by
    obtain ⟨h1, h2, h3⟩ := a3 hk
    cases Option.isNone_iff_eq_none.mp (a2 h1).1; cases Option.isNone_iff_eq_none.mp (a2 h1).2
    exact sem_upto isO ((snd_E O a h2 h).mono fun v σ₁ h => (snd_E O b h3 h).mono fun vb σ₂ h => h)
  | .attr e y, x, env, fr, σ, Q, hc, h => onAttribute_of (C := (SemE c n env · fr σ Q)) hc fun _ _ _ hk => by
    obtain ⟨h1, h2, h3⟩ := a3 hk
    rw [S_of h1]
    exact sem_attr O h2 (snd_E O e h3 h)
  | .bi b es, x, env, fr, σ, Q, hc, h => onCall_of (C := (SemE c n env · fr σ Q)) hc fun f es' kw pos hk => onName_of (C := fun f => SemE c n env (.Call f es' kw pos) fr σ Q) hk fun s p hk => by
    obtain ⟨h1, h2, h3⟩ := a3 hk
    obtain ⟨g1, g2, g3⟩ := a3 h1
    cases List.isEmpty_iff.mp g3
    cases eq_of_beq g1
    cases es' with
    | nil => cases (a2 h2).1
    | cons e' es' => exact sem_bi O b (eq_of_beq g2) (allStar (a2 h2).2) (snd_Es O es h3 (a2 h2).2 h)
  | .me m o es, x, env, fr, σ, Q, hc, h => onCall_of (C := (SemE c n env · fr σ Q)) hc fun f es' kw pos hk => onAttribute_of (C := fun f => SemE c n env (.Call f es' kw pos) fr σ Q) hk fun o' s apos hk => by
    obtain ⟨h1, h2, h3⟩ := a3 hk
    obtain ⟨g1, g2, g3⟩ := a3 h1
    obtain ⟨k1, k2, k3⟩ := a3 h2
    cases List.isEmpty_iff.mp g3
    cases eq_of_beq g1
    exact sem_me O m g2 (allStar k3) (b_of k2) k1 ((snd_E O o (a2 h3).1 h).mono fun v σ₁ h => ⟨h.1, snd_Es O es (a2 h3).2 k3 h.2⟩)
  | .call f es, x, env, fr, σ, Q, hc, h => onCall_of (C := (SemE c n env · fr σ Q)) hc fun f' es' kw pos hk => onName_of (C := fun f => SemE c n env (.Call f es' kw pos) fr σ Q) hk fun s p hk => by
    obtain ⟨h1, h2, h3⟩ := a3 hk
    obtain ⟨g1, g2, g3⟩ := a3 h1
    cases List.isEmpty_iff.mp g3
    cases eq_of_beq g1
    obtain ⟨fv, hf, h⟩ := h
    exact sem_call O hf (bne_iff_ne.mp g2) (eq_of_beq (a2 h2).1) (allStar (a2 h2).2) (snd_Es O es h3 (a2 h2).2 h)
  | .mcall o y es, x, env, fr, σ, Q, hc, h => onCall_of (C := (SemE c n env · fr σ Q)) hc fun f es' kw pos hk => onAttribute_of (C := fun f => SemE c n env (.Call f es' kw pos) fr σ Q) hk fun o' s apos hk => by
    obtain ⟨h1, h2, h3⟩ := a3 hk
    obtain ⟨g1, g2, g3⟩ := a3 h1
    obtain ⟨k1, k2, k3⟩ := a3 h2
    cases List.isEmpty_iff.mp g3
    cases eq_of_beq g1
    refine sem_mcall O g2 (allStar k3) (b_of k2) k1 ((snd_E O o (a2 h3).1 h).mono fun v σ₁ h => ?_)
    cases v with
    | obj cl d =>
      obtain ⟨f, a, b, h⟩ := h
      exact ⟨_, _, f, rfl, a, b, snd_Es O es (a2 h3).2 k3 h⟩
    | _ => exact False.elim h
  | .comp isO free t it ifs elt, x, env, fr, σ, Q, hc, h => onListComp_of (C := (SemE c n env · fr σ Q)) hc fun elt' gs scope cpos hk => on1_of (C := fun gs => SemE c n env (.ListComp elt' gs scope cpos) fr σ Q) hk fun g hk => by
    obtain ⟨h1, h2, h3⟩ := a3 hk
    obtain ⟨g1, g2, g3⟩ := a3 h1
    obtain ⟨k1, k2, k3⟩ := a3 h2
    obtain ⟨t', it', ifs', as⟩ := g
    cases b_of k1
    exact sem_comp free isO (comp_ok g1) h.1 k2 ((snd_I O it k3 h.2).mono fun xs σ₁ h C =>
      compL_ok (env := compEnvC scope (closGo env scope.names []) C env) rfl g2 g3 (fun fr σ Q z => snd_All O true ifs (a2 h3).1 z) (fun fr σ Q z => snd_E O elt (a2 h3).2 z) xs [] σ₁ h)
  | .frz e, x, env, fr, σ, Q, hc, h => sem_frz (snd_E O e hc h)
theorem snd_Es (O : CxOK P c) : ∀ (es : List E) {xs : List Expr} {env : Env} {pos : Pos} {fr : Fm} {σ : Sg} {Q : List V → Sg → Prop}, chkEs env.scope es xs = true → xs.all notStar = true → wEs P c n es fr σ Q → SemL c n env pos xs fr σ Q
  | [], x, env, pos, fr, σ, Q, hc, hs, h => by
    cases List.isEmpty_iff.mp hc
    exact semL_nil h
  | e :: es, x, env, pos, fr, σ, Q, hc, hs, h =>
    onC_of (C := fun x => x.all notStar = true → SemL c n env pos x fr σ Q) hc (fun a t hk hs => semL_cons (a2 hs).1 ((snd_E O e (a2 hk).1 h).mono fun v σ₁ h => snd_Es O es (a2 hk).2 (a2 hs).2 h)) hs
theorem snd_And (O : CxOK P c) (isAnd : Bool) : ∀ (es : List E) {xs : List Expr} {env : Env} {fr : Fm} {σ : Sg} {Q : V → Sg → Prop}, chkEs env.scope es xs = true → wAnd P c n isAnd es fr σ Q → SemAnd c n env isAnd xs fr σ Q
  | [], x, env, fr, σ, Q, hc, h => False.elim h
  | [e], x, env, fr, σ, Q, hc, h => onC_of (C := fun x => SemAnd c n env isAnd x fr σ Q) hc fun a t hk => by
    cases List.isEmpty_iff.mp (a2 hk).2
    exact snd_E O e (a2 hk).1 h
  | e :: e' :: es, x, env, fr, σ, Q, hc, h => onC_of (C := fun x => SemAnd c n env isAnd x fr σ Q) hc fun a t hk => by
    obtain ⟨h1, h2⟩ := a2 hk
    cases t with
    | nil => cases h2
    | cons a' t =>
      exact (snd_E O e h1 h).mono fun v σ₁ z => wTruth_mono z fun b z => ite_of z (fun z => snd_And O isAnd (e' :: es) h2 z) fun z => z
theorem snd_B (O : CxOK P c) : ∀ (e : E) {x : Expr} {env : Env} {fr : Fm} {σ : Sg} {Q : Bool → Sg → Prop}, chkE env.scope e x = true → wB P c n e fr σ Q → SemB c n env x fr σ Q
  | .not e, x, env, fr, σ, Q, hc, h => onUnaryOp_of (C := (SemB c n env · fr σ Q)) hc fun o _ _ hk => by rw [b_of (a2 hk).1]; exact semB_not (snd_B O e (a2 hk).2 h)
  | .and es, x, env, fr, σ, Q, hc, h => onBoolOp_of (C := (SemB c n env · fr σ Q)) hc fun o _ _ hk => by rw [b_of (a2 hk).1]; exact semB_and (snd_All O true es (a2 hk).2 h)
  | .or es, x, env, fr, σ, Q, hc, h => onBoolOp_of (C := (SemB c n env · fr σ Q)) hc fun o _ _ hk => by rw [b_of (a2 hk).1]; exact semB_or (snd_All O false es (a2 hk).2 h)
  | .cmp op l r, x, env, fr, σ, Q, hc, h => onCompare_of (C := (SemB c n env · fr σ Q)) hc fun l' ops rs pos hk => on1_of (C := fun ops => SemB c n env (.Compare l' ops rs pos) fr σ Q) hk fun op' hk => on1_of (C := fun rs => SemB c n env (.Compare l' [op'] rs pos) fr σ Q) hk fun r' hk => by
    obtain ⟨h1, h2, h3⟩ := a3 hk
    rw [eq_of_beq h1]
    exact sem_cmpB ((snd_E O l h2 h).mono fun a σ₁ h => snd_E O r h3 h)
  | .cx op l r, x, env, fr, σ, Q, hc, h => onCompare_of (C := (SemB c n env · fr σ Q)) hc fun l' ops rs pos hk => on1_of (C := fun ops => SemB c n env (.Compare l' ops rs pos) fr σ Q) hk fun op' hk => on1_of (C := fun rs => SemB c n env (.Compare l' [op'] rs pos) fr σ Q) hk fun r' hk => by
    obtain ⟨h1, h2, h3⟩ := a3 hk
    rw [eq_of_beq (a2 h1).1]
    exact semB_cx (a2 h1).2 ((snd_E O l h2 h).mono fun a σ₁ h => snd_E O r h3 h)
  | .var y, x, env, fr, σ, Q, hc, h => onName_of (C := (SemB c n env · fr σ Q)) hc fun s _ hk => by
    obtain ⟨h1, h2, h3⟩ := a3 hk
    rw [S_of h1]
    obtain ⟨v, e, q⟩ := h
    exact semB_val (sem_var e q (bne_iff_ne.mp h2) (bne_iff_ne.mp h3)) rfl
  | .attr e y, x, env, fr, σ, Q, hc, h => onAttribute_of (C := (SemB c n env · fr σ Q)) hc fun _ _ _ hk => by
    obtain ⟨h1, h2, h3⟩ := a3 hk
    rw [S_of h1]
    exact semB_val (sem_attr O h2 (snd_E O e h3 h)) rfl
  | .call f es, x, env, fr, σ, Q, hc, h => onCall_of (C := (SemB c n env · fr σ Q)) hc fun f' es' kw pos hk => onName_of (C := fun f => SemB c n env (.Call f es' kw pos) fr σ Q) hk fun s p hk => by
    obtain ⟨h1, h2, h3⟩ := a3 hk
    obtain ⟨g1, g2, g3⟩ := a3 h1
    cases List.isEmpty_iff.mp g3
    cases eq_of_beq g1
    obtain ⟨fv, hf, h⟩ := h
    exact semB_val (sem_call O hf (bne_iff_ne.mp g2) (eq_of_beq (a2 h2).1) (allStar (a2 h2).2) (snd_Es O es h3 (a2 h2).2 h)) rfl
  | .mcall o y es, x, env, fr, σ, Q, hc, h => onCall_of (C := (SemB c n env · fr σ Q)) hc fun f es' kw pos hk => onAttribute_of (C := fun f => SemB c n env (.Call f es' kw pos) fr σ Q) hk fun o' s apos hk => by
    obtain ⟨h1, h2, h3⟩ := a3 hk
    obtain ⟨g1, g2, g3⟩ := a3 h1
    obtain ⟨k1, k2, k3⟩ := a3 h2
    cases List.isEmpty_iff.mp g3
    cases eq_of_beq g1
    refine semB_val (sem_mcall O g2 (allStar k3) (b_of k2) k1 ((snd_E O o (a2 h3).1 h).mono fun v σ₁ h => ?_)) rfl
    cases v with
    | obj cl d =>
      obtain ⟨f, a, b, h⟩ := h
      exact ⟨_, _, f, rfl, a, b, snd_Es O es (a2 h3).2 k3 h⟩
    | _ => exact False.elim h
  | .none, _, _, _, _, _, _, h => False.elim h
  | .bool _, _, _, _, _, _, _, h => False.elim h
  | .int _, _, _, _, _, _, _, h => False.elim h
  | .str _, _, _, _, _, _, _, h => False.elim h
  | .bin .., _, _, _, _, _, _, h => False.elim h
  | .neg _, _, _, _, _, _, _, h => False.elim h
  | .ite .., _, _, _, _, _, _, h => False.elim h
  | .tup _, _, _, _, _, _, _, h => False.elim h
  | .lst .., _, _, _, _, _, _, h => False.elim h
  | .dict0, _, _, _, _, _, _, h => False.elim h
  | .idx .., _, _, _, _, _, _, h => False.elim h
  | .upto .., _, _, _, _, _, _, h => False.elim h
  | .bi .., _, _, _, _, _, _, h => False.elim h
  | .me .., _, _, _, _, _, _, h => False.elim h
  | .comp .., _, _, _, _, _, _, h => False.elim h
  | .frz _, _, _, _, _, _, _, h => False.elim h
theorem snd_All (O : CxOK P c) (isAnd : Bool) : ∀ (es : List E) {xs : List Expr} {env : Env} {fr : Fm} {σ : Sg} {Q : Bool → Sg → Prop}, chkEs env.scope es xs = true → wAll P c n isAnd es fr σ Q → SemAll c n env isAnd xs fr σ Q
  | [], x, env, fr, σ, Q, hc, h => by
    cases List.isEmpty_iff.mp hc
    exact h
  | e :: es, x, env, fr, σ, Q, hc, h => onC_of (C := fun x => SemAll c n env isAnd x fr σ Q) hc fun a t hk =>
    (snd_B O e (a2 hk).1 h).mono fun b σ₁ z => ite_of z (fun z => snd_All O isAnd es (a2 hk).2 z) fun z => z
theorem snd_I (O : CxOK P c) : ∀ (it : I) {x : Expr} {tt : Bool} {env : Env} {fr : Fm} {σ : Sg} {Q : List V → Sg → Prop}, chkI env.scope tt it x = true → wI P c n it fr σ Q → SemI c n env tt x fr σ Q
  | .over e, x, tt, env, fr, σ, Q, hc, h => semI_of (snd_E O e hc h)
  | .zip a b, x, tt, env, fr, σ, Q, hc, h => onCall_of (C := (SemI c n env tt · fr σ Q)) hc fun f es kw pos hk => onName_of (C := fun f => SemI c n env tt (.Call f es kw pos) fr σ Q) hk fun s p hk => onC_of (C := fun es => SemI c n env tt (.Call (.Name s p) es kw pos) fr σ Q) hk fun a' es hk => on1_of (C := fun es => SemI c n env tt (.Call (.Name s p) (a' :: es) kw pos) fr σ Q) hk fun b' hk => by
    obtain ⟨h1, h2, h3⟩ := a3 hk
    obtain ⟨g1, g2, g3⟩ := a3 h1
    cases List.isEmpty_iff.mp g3
    cases eq_of_beq g2
    subst g1
    have hs := allStar (a2 h2).2
    refine semI_zip O (eq_of_beq (a2 h2).1) hs (semL_cons (hs _ (.head _)) ((snd_E O a (a2 h3).1 h).mono fun v σ₁ h => semL_cons (hs _ (.tail _ (.head _))) ((snd_E O b (a2 h3).2 h).mono fun w σ₂ h => semL_nil ?_)))
    obtain ⟨la, lb, rfl, rfl, q⟩ := h
    exact ⟨la, lb, rfl, q⟩
end
end
end PyW
namespace PyW
section
variable {c : Cx} {P : Pg} {n : Nat}
theorem nodup_of : ∀ {xs : List String}, nodupB xs = true → xs.Nodup
  | [], _ => .nil
  | x :: xs, h => by
    simp only [nodupB, Bool.and_eq_true, Bool.not_eq_true'] at h
    exact List.nodup_cons.mpr ⟨by simpa using h.1, nodup_of h.2⟩
theorem bound_of {sc : Scope} {t : TL} {env : Env} (he : env.scope = sc) (h : (tlNames t).all (isBound sc) = true) : ∀ y ∈ tlNames t, env.kindOf (S y) = some .local ∨ env.kindOf (S y) = some .cell := fun y hy => by
  subst he
  have := List.all_eq_true.mp h y hy
  simp only [isBound, Bool.or_eq_true, beq_iff_eq] at this
  exact this
theorem snd_T (O : CxOK P c) {t : T} {x : Expr} {env : Env} {v : V} {fr : Fm} {σ : Sg} {Q : Fm → Sg → Prop} (hc : chkT env.scope t x = true) (h : wT P c n t v fr σ Q) : SemT c n env x v fr σ Q := by
  cases t with
  | tl t =>
    obtain ⟨fr', hb, q⟩ := h
    exact snd_T1 (a2 hc).1 (bound_of rfl (a2 hc).2) hb q
  | attr e y =>
    refine onAttribute_of (C := (SemT c n env · v fr σ Q)) hc fun _ _ _ hk => ?_
    rw [S_of (a2 hk).1]
    exact semT_attr O (snd_E O e (a2 hk).2 h)
  | sub e i =>
    refine onSubscript_of (C := (SemT c n env · v fr σ Q)) hc fun _ _ _ hk => ?_
    exact semT_sub ((snd_E O e (a2 hk).1 h).mono fun o σ₁ h => snd_E O i (a2 hk).2 h)
theorem snd_assign (O : CxOK P c) {t : T} {e : E} {t' e' : Expr} {pos : Pos} {env : Env} {fr : Fm} {σ : Sg} {Q : Fl → Fm → Sg → Prop} (hc : chkAssign env.scope t e t' e' pos.line = true)
    (h : wE P c n e fr σ fun v σ₁ => wT P c n t v fr σ₁ fun fr₂ σ₂ => Q .next fr₂ σ₂) : SemS c n env (.Assign [t'] e' pos) fr σ Q := by
  obtain ⟨h0, h4⟩ := a2 hc
  obtain ⟨h1, h2, h3⟩ := a3 h0
  refine onS_of (C := fun o => purely (swapsWithSole [t'] e' pos.line (env0 env.scope)) = o → SemS c n env (.Assign [t'] e' pos) fr σ Q) h4 (fun b h4 hp => ?_) rfl
  cases b with
  | true =>
    have hsw : swapsWithSole [t'] e' pos.line env = pure true := by rw [swaps_env]; exact purely_eq hp
    refine onTtl_of (C := fun t => chkT env.scope t t' = true → (wE P c n e fr σ fun v σ₁ => wT P c n t v fr σ₁ fun fr₂ σ₂ => Q .next fr₂ σ₂) → SemS c n env (.Assign [t'] e' pos) fr σ Q) h4 (fun tl h4 => ?_) h2 h
    refine onTLname_of (C := fun tl => chkT env.scope (.tl tl) t' = true → (wE P c n e fr σ fun v σ₁ => wT P c n (.tl tl) v fr σ₁ fun fr₂ σ₂ => Q .next fr₂ σ₂) → SemS c n env (.Assign [t'] e' pos) fr σ Q) h4 (fun y h4 h2 => ?_)
    refine onEcomp_of (C := fun e => chkE env.scope e e' = true → (wE P c n e fr σ fun v σ₁ => wT P c n (.tl (.name y)) v fr σ₁ fun fr₂ σ₂ => Q .next fr₂ σ₂) → SemS c n env (.Assign [t'] e' pos) fr σ Q) h4 (fun isO free tl it ifs elt h4 h3 h => ?_) h3
    refine onName_of (C := fun t' => swapsWithSole [t'] e' pos.line env = pure true → SemS c n env (.Assign [t'] e' pos) fr σ Q) (a2 h2).1 (fun s p hs hsw => ?_) hsw
    cases eq_of_beq hs
    have hk : env.kindOf (S y) = some .local := eq_of_beq h4
    refine onListComp_of (C := fun e' => swapsWithSole [.Name (S y) p] e' pos.line env = pure true → SemS c n env (.Assign [.Name (S y) p] e' pos) fr σ Q) h3 (fun elt' gs scope cpos hk' hsw => ?_) hsw
    refine on1_of (C := fun gs => swapsWithSole [.Name (S y) p] (.ListComp elt' gs scope cpos) pos.line env = pure true → SemS c n env (.Assign [.Name (S y) p] (.ListComp elt' gs scope cpos) pos) fr σ Q) hk' (fun g hk' hsw => ?_) hsw
    obtain ⟨h1, h2, h3⟩ := a3 hk'
    obtain ⟨g1, g2, g3⟩ := a3 h1
    obtain ⟨k1, k2, k3⟩ := a3 h2
    obtain ⟨t', it', ifs', as⟩ := g
    cases b_of k1
    have e2 : ∀ v σ₁, wT P c n (.tl (.name y)) v fr σ₁ (fun fr₂ σ₂ => Q .next fr₂ σ₂) = Q .next (upd fr y v) σ₁ := fun v σ₁ => propext ⟨fun ⟨f, a, b⟩ => by cases Option.some.inj a; exact b, fun q => ⟨_, rfl, q⟩⟩
    have e : (QL isO fun v σ₁ => wT P c n (.tl (.name y)) v fr σ₁ fun fr₂ σ₂ => Q .next fr₂ σ₂) = QL isO fun v σ₂ => Q .next (upd fr y v) σ₂ := congrArg (QL isO) (funext fun v => funext fun σ₁ => e2 v σ₁)
    refine semS_assignComp free isO (comp_ok g1) h.1 k2 hk ((snd_I O it k3 h.2).mono fun xs σ₁ h C => ?_) hsw
    rw [← e]
    exact compL_ok (env := compEnvC scope (closGo env scope.names []) C env) rfl g2 g3 (fun fr σ Q z => snd_All O true ifs (a2 h3).1 z) (fun fr σ Q z => snd_E O elt (a2 h3).2 z) xs [] σ₁ h
  | false =>
    have hsw : swapsWithSole [t'] e' pos.line env = pure false := by rw [swaps_env]; exact purely_eq hp
    refine onS_of (C := fun o => purely (swappedStores [t'] e' (env0 env.scope)) = o → SemS c n env (.Assign [t'] e' pos) fr σ Q) h4 (fun o h4 hq => ?_) rfl
    cases o with
    | none =>
      have hst : swappedStores [t'] e' env = pure none := by rw [stores_env]; exact purely_eq hq
      exact semS_assign h1 ((snd_E O e h3 h).mono fun v σ₁ h => snd_T O h2 h) hsw hst
    | some ss =>
      have hst : swappedStores [t'] e' env = pure (some ss) := by rw [stores_env]; exact purely_eq hq
      refine onTtl_of (C := fun t => chkT env.scope t t' = true → (wE P c n e fr σ fun v σ₁ => wT P c n t v fr σ₁ fun fr₂ σ₂ => Q .next fr₂ σ₂) → SemS c n env (.Assign [t'] e' pos) fr σ Q) h4 (fun tl h4 => ?_) h2 h
      refine onTLnames_of (C := fun tl => chkT env.scope (.tl tl) t' = true → (wE P c n e fr σ fun v σ₁ => wT P c n (.tl tl) v fr σ₁ fun fr₂ σ₂ => Q .next fr₂ σ₂) → SemS c n env (.Assign [t'] e' pos) fr σ Q) h4 (fun xs h4 h2 h => ?_)
      obtain ⟨j1, j2, j3⟩ := a3 h4
      cases eq_of_beq (a2 j1).1
      refine onTuple_of (C := fun t' => swapsWithSole [t'] e' pos.line env = pure false → swappedStores [t'] e' env = pure (some (xs.map S)) → SemS c n env (.Assign [t'] e' pos) fr σ Q) (a2 h2).1 (fun ts k p _ hsw hst => ?_) hsw hst
      refine semS_swap (nodup_of (a2 j1).2) (fun x hx => eq_of_beq (List.all_eq_true.mp j2 x hx)) (by simpa using j3) ((snd_E O e h3 h).mono fun v σ₁ h => ?_) hsw hst
      obtain ⟨fr', hb, q⟩ := h
      obtain ⟨vs, rfl, hl, rfl⟩ := bindT_names hb
      exact ⟨vs, rfl, hl, q⟩
theorem loopS_ok {t : TL} {t' : Expr} {env : Env} {body : Fm → Sg → (Fl → Fm → Sg → Prop) → Prop} {b' : List Stmt} (hc : chkTL t t' = true) (hk : ∀ y ∈ tlNames t, env.kindOf (S y) = some .local ∨ env.kindOf (S y) = some .cell)
    (hb : ∀ fr σ (Q : Fl → Fm → Sg → Prop), body fr σ Q → SemSs c n env b' fr σ Q) : ∀ {xs : List V} {fr : Fm} {σ : Sg} {Q : Fl → Fm → Sg → Prop}, loopS t body xs fr σ Q → SemFor c n env t' b' xs fr σ Q
  | [], fr, σ, Q, h => h
  | x :: xs, fr, σ, Q, h => by
    obtain ⟨fr₁, e, h⟩ := h
    unfold SemFor
    refine snd_T1 hc hk e ((hb _ _ _ h).mono fun fl fr₂ σ₂ z => ?_)
    cases fl with
    | next => exact loopS_ok hc hk hb z
    | brk => exact z
    | ret v => exact z
set_option maxHeartbeats 4000000 in
mutual
theorem snd_S (O : CxOK P c) : ∀ (st : St) {x : Stmt} {env : Env} {fr : Fm} {σ : Sg} {Q : Fl → Fm → Sg → Prop}, chkS env.scope st x = true → wS P c n st fr σ Q → SemS c n env x fr σ Q
  | .assign t e, x, env, fr, σ, Q, hc, h => onS_Assign_of (C := (SemS c n env · fr σ Q)) hc fun ts e' pos hk => on1_of (C := fun ts => SemS c n env (.Assign ts e' pos) fr σ Q) hk fun t' hk => snd_assign O hk h
  | .expr e, x, env, fr, σ, Q, hc, h => onS_Expr_of (C := (SemS c n env · fr σ Q)) hc fun e' pos hk => semS_expr (snd_E O e (a2 hk).1 h) (by rw [swaps_env0]; exact purely_eq (eq_of_beq (a2 hk).2))
  | .ret e, x, env, fr, σ, Q, hc, h => onS_Return_of (C := (SemS c n env · fr σ Q)) hc fun o pos hk => onS_of (C := fun o => SemS c n env (.Return o pos) fr σ Q) hk fun e' hk => semS_ret (snd_E O e hk h)
  | .ret0, x, env, fr, σ, Q, hc, h => onS_Return_of (C := (SemS c n env · fr σ Q)) hc fun o pos hk => by cases Option.isNone_iff_eq_none.mp hk; exact semS_ret0 h
  | .cond t a b, x, env, fr, σ, Q, hc, h => onS_If_of (C := (SemS c n env · fr σ Q)) hc fun c' a' b' pos hk => by
    obtain ⟨h1, h2, h3⟩ := a3 hk
    exact semS_if ((snd_B O t h1 h).mono fun v σ₁ z => ite_of z (fun z => snd_Ss O a h2 z) fun z => snd_Ss O b h3 z)
  | .while t b, x, env, fr, σ, Q, hc, h => onS_While_of (C := (SemS c n env · fr σ Q)) hc fun c' b' e pos hk => by
    obtain ⟨h1, h2, h3⟩ := a3 hk
    cases List.isEmpty_iff.mp h1
    obtain ⟨J, k, j, h⟩ := h
    exact semS_while ⟨J, k, j, fun k fr σ j => (snd_B O t h2 (h k fr σ j)).mono fun v σ₁ z => ite_of z (fun z => snd_Ss O b h3 z) fun z => z⟩
  | .for t it b, x, env, fr, σ, Q, hc, h => onS_For_of (C := (SemS c n env · fr σ Q)) hc fun t' it' b' e pos hk => by
    obtain ⟨h1, h2, h3⟩ := a3 hk
    obtain ⟨g1, g2, g3⟩ := a3 h1
    cases List.isEmpty_iff.mp g1
    exact semS_for (a2 h2).1 ((snd_I O it (a2 h2).2 h).mono fun xs σ₁ h => loopS_ok g2 (bound_of rfl g3) (fun fr σ Q z => snd_Ss O b h3 z) h)
  | .pass, x, env, fr, σ, Q, hc, h => onS_Pass_of (C := (SemS c n env · fr σ Q)) hc fun _ _ => semS_pass h
  | .brk, x, env, fr, σ, Q, hc, h => onS_Break_of (C := (SemS c n env · fr σ Q)) hc fun _ _ => semS_break h
theorem snd_Ss (O : CxOK P c) : ∀ (ss : List St) {xs : List Stmt} {env : Env} {fr : Fm} {σ : Sg} {Q : Fl → Fm → Sg → Prop}, chkSs env.scope ss xs = true → wSs P c n ss fr σ Q → SemSs c n env xs fr σ Q
  | [], x, env, fr, σ, Q, hc, h => by
    cases List.isEmpty_iff.mp hc
    exact semSs_nil h
  | s :: ss, x, env, fr, σ, Q, hc, h => onC_of (C := (SemSs c n env · fr σ Q)) hc fun a t hk => by
    refine semSs_cons ((snd_S O s (a2 hk).1 h).mono fun fl fr₁ σ₁ z => ?_)
    cases fl with
    | next => exact snd_Ss O ss (a2 hk).2 z
    | brk => exact z
    | ret v => exact z
end
end
end PyW
namespace PyW
/-! ### functions -/
noncomputable def simpleP (fd : FuncData) (xs : List String) : Bool :=
  fd.params.posonlyargs.isEmpty && fd.params.vararg.isNone && fd.params.kwonlyargs.isEmpty && fd.params.kwarg.isNone && fd.defaults == .none && fd.params.args.map (·.arg) == xs.map S && nodupB xs
/-- a function's object, held against a tree -/
noncomputable def fnChk (K : Frag) (f : Addr) (xs : List String) (b : List St) : Bool := match K.lookup f with
  | some ⟨_, _, .func fd, _⟩ => (match fd.body with
    | .stmts body => simpleP fd xs && fd.globals == mainGlobals && fd.closure.isEmpty && fd.builtins == builtinsNs && codeIn K fd.code fd.qualname && !fd.scope.isCoroutine && !fd.scope.isGenerator && fd.scope.kind == .function &&
        xs.all (isBound fd.scope) && chkSs fd.scope b body
    | _ => false)
  | _ => false
theorem lookup_zip : ∀ {ns : List Str} {rs : List Value}, ns.Nodup → ns.length = rs.length → ns.filterMap (fun n => ((ns.zip rs).lookup n).map (n, ·)) = ns.zip rs := by
  have go : ∀ (ns : List Str) (rs : List Value) (pre : List (Str × Value)), ns.Nodup → ns.length = rs.length → (∀ n ∈ ns, pre.lookup n = none) → ns.filterMap (fun n => ((pre ++ ns.zip rs).lookup n).map (n, ·)) = ns.zip rs := by
    intro ns
    induction ns with
    | nil => intro rs pre _ _ _; rfl
    | cons n ns ih =>
      intro rs pre hn hl hp
      cases rs with
      | nil => simp at hl
      | cons r rs =>
        rw [List.nodup_cons] at hn
        have e1 : (pre ++ (n :: ns).zip (r :: rs)).lookup n = some r := by
          rw [List.lookup_append, hp n (.head _)]; simp
        rw [List.filterMap_cons, e1]
        simp only [Option.map_some, List.zip_cons_cons, List.cons.injEq, true_and]
        have := ih rs (pre ++ [(n, r)]) hn.2 (by simpa using hl) (fun m hm => by
          rw [List.lookup_append, hp m (.tail _ hm)]
          have : (m == n) = false := by
            refine beq_eq_false_iff_ne.mpr fun q => hn.1 (q ▸ hm)
          simp [List.lookup_cons, this])
        simpa using this
  intro ns rs hn hl
  simpa using go ns rs [] hn hl (fun _ _ => rfl)
theorem lookup_zip_some : ∀ {ns : List Str} {rs : List Value}, ns.length = rs.length → ∀ n ∈ ns, ((ns.zip rs).lookup n).isSome = true
  | [], _, _, _, h => (nomatch h)
  | n :: ns, rs, hl, m, hm => by
    cases rs with
    | nil => simp at hl
    | cons r rs =>
      by_cases q : m = n
      · subst q; simp
      · have q' : (m == n) = false := by simpa using q
        simp only [List.zip_cons_cons, List.lookup_cons, q']
        rcases List.mem_cons.mp hm with h | h
        · exact absurd h q
        · exact lookup_zip_some (by simpa using hl) m h
theorem bind_simple {fd : FuncData} {xs : List String} {rs : List Value} (h : simpleP fd xs = true) (hl : xs.length = rs.length) : bindArgs fd ⟨rs, []⟩ = pure ((xs.map S).zip rs) := by
  unfold simpleP at h
  simp only [Bool.and_eq_true, beq_iff_eq] at h
  obtain ⟨⟨⟨⟨⟨⟨h1, h2⟩, h3⟩, h4⟩, h5⟩, h6⟩, h7⟩ := h
  obtain ⟨nm, qn, ⟨po, ar, va, ko, kd, kw, df⟩, body, sc, gl, cl, dfs, kwd, dc, pm, an, cd, ct, bi⟩ := fd
  simp only at h1 h2 h3 h4 h5 h6
  have e1 : po = [] := by simpa using h1
  have e2 : va = none := by simpa using h2
  have e3 : ko = [] := by simpa using h3
  have e4 : kw = none := by simpa using h4
  subst e1 e2 e3 e4 h5
  have hn : (xs.map S).Nodup := by
    have := nodup_of h7
    clear h6 h7 hl
    induction xs with
    | nil => simp
    | cons x xs ih =>
      rw [List.nodup_cons] at this
      rw [List.map_cons, List.nodup_cons]
      refine ⟨fun q => ?_, ih this.2⟩
      obtain ⟨y, hy, e⟩ := List.mem_map.mp q
      exact this.1 (S_inj e ▸ hy)
  have hl' : (xs.map S).length = rs.length := by simpa using hl
  have e5 : ¬ rs.length > (xs.map S).length := by omega
  have e6 : ((xs.map S).filter fun n => (((xs.map S).zip rs).lookup n).isNone) = [] := by
    rw [List.filter_eq_nil_iff]
    intro n hn
    have := lookup_zip_some hl' n hn
    cases z : ((xs.map S).zip rs).lookup n <;> rw [z] at this <;> simp at this ⊢
  have e7 := lookup_zip hn hl'
  unfold bindArgs
  dsimp only
  rw [h6]
  have pb : ∀ {α β : Type} (a : α) (f : α → Sem β), (pure a >>= f) = f a := fun _ _ => rfl
  have sn : seqItems? .none = pure none := rfl
  simp only [List.forIn_nil, pb, sn, List.map_nil, List.nil_append, List.append_nil, e5, decide_false, Bool.false_and, Bool.false_eq_true, if_false, Option.getD_none, List.drop_nil, List.length_nil, Nat.sub_zero, List.take_length, e6, List.isEmpty_nil, Bool.not_true,
    List.zip_nil_right, e7]
section
variable {c : Cx} {P : Pg} {n : Nat}
theorem cells_some {X : Str} : ∀ {names : List (Str × NameKind)} {m : Nat} {acc : List (Str × Addr)}, ((X, NameKind.cell) ∈ names ∨ (acc.lookup X).isSome = true) → ((cellsFrom m names acc).lookup X).isSome = true
  | [], m, acc, h => by
    rcases h with h | h
    · cases h
    · exact h
  | (y, kd) :: r, m, acc, h => by
    unfold cellsFrom
    split
    · rename_i q
      refine cells_some ?_
      by_cases z : X = y
      · subst z; exact .inr (by simp)
      · have z' : (X == y) = false := by simpa using z
        rcases h with h | h
        · rcases List.mem_cons.mp h with h | h
          · cases h; exact absurd rfl z
          · exact .inl h
        · exact .inr (by simp only [List.lookup_cons, z']; exact h)
    · rename_i q
      refine cells_some ?_
      rcases h with h | h
      · rcases List.mem_cons.mp h with h | h
        · cases h; simp at q
        · exact .inl h
      · exact .inr h
theorem mem_lookup {α : Type} {X : Str} {v : α} : ∀ {l : List (Str × α)}, l.lookup X = some v → (X, v) ∈ l
  | [], h => by simp at h
  | (y, w) :: r, h => by
    by_cases z : X = y
    · subst z; simp at h; subst h; exact .head _
    · have z' : (X == y) = false := by simpa using z
      simp only [List.lookup_cons, z'] at h
      exact .tail _ (mem_lookup h)
/-- how parameters lie -/
theorem binds_at {h : Heap} {ow : Addr → Prop} {kindOf : Str → Option NameKind} : ∀ {xs : List String} {vs : List V} {rs : List Value} {fr : Fm} {m cm : Str → Option Value}, RelVs c h ow vs rs → xs.length = vs.length →
    (∀ x ∈ xs, kindOf (S x) = some .local ∨ kindOf (S x) = some .cell) →
    (∀ x v, fr x = some v → ∃ rv, RelV c h ow v rv ∧ ((kindOf (S x) = some .local ∧ m (S x) = some rv) ∨ (kindOf (S x) = some .cell ∧ cm (S x) = some rv))) →
    ∀ x v, updsL fr xs vs x = some v → ∃ rv, RelV c h ow v rv ∧ ((kindOf (S x) = some .local ∧ bindL kindOf ((xs.map S).zip rs) m (S x) = some rv) ∨ (kindOf (S x) = some .cell ∧ bindC kindOf ((xs.map S).zip rs) cm (S x) = some rv))
  | [], vs, rs, fr, m, cm, r, hl, hk, hi => by
    cases vs with
    | nil => simpa [updsL, bindL, bindC] using hi
    | cons _ _ => simp at hl
  | x :: xs, vs, rs, fr, m, cm, r, hl, hk, hi => by
    match vs, rs, r with
    | v :: vs, rv :: rs, r =>
      simp only [RelVs] at r
      simp only [updsL, List.map_cons, List.zip_cons_cons, bindL, bindC]
      refine binds_at r.2 (by simpa using hl) (fun y hy => hk y (.tail _ hy)) fun y w e => ?_
      by_cases q : y = x
      · subst q
        rw [upd_same] at e; cases e
        refine ⟨rv, r.1, ?_⟩
        rcases hk y (.head _) with k | k
        · exact .inl ⟨k, by rw [if_pos k, if_pos rfl]⟩
        · exact .inr ⟨k, by rw [if_neg (by rw [k]; simp), if_pos rfl]⟩
      · rw [upd_ne _ _ q] at e
        obtain ⟨ru, u1, u2⟩ := hi y w e
        have ne : ¬ S y = S x := fun z => q (S_inj z)
        refine ⟨ru, u1, ?_⟩
        rcases u2 with ⟨k, z⟩ | ⟨k, z⟩
        · refine .inl ⟨k, ?_⟩
          split
          · dsimp only; rw [if_neg ne]; exact z
          · exact z
        · refine .inr ⟨k, ?_⟩
          split
          · exact z
          · dsimp only; rw [if_neg ne]; exact z
    | [], _, _ => simp at hl
theorem apart_eq : ∀ {l : List (Str × Addr)} {p q : Str × Addr}, l.Pairwise (fun x y => x.2 ≠ y.2) → p ∈ l → q ∈ l → p.2 = q.2 → p = q
  | [], _, _, _, h, _, _ => (nomatch h)
  | a :: l, p, q, hp, h1, h2, e => by
    rw [List.pairwise_cons] at hp
    rcases List.mem_cons.mp h1 with k1 | k1
    · rcases List.mem_cons.mp h2 with k2 | k2
      · rw [k1, k2]
      · exact absurd (k1 ▸ e) (hp.1 _ k2)
    · rcases List.mem_cons.mp h2 with k2 | k2
      · exact absurd (k2 ▸ e.symm) (hp.1 _ k1)
      · exact apart_eq hp.2 k1 k2 e
noncomputable def frOf (xs : List String) (vs : List V) : Fm := updsL (fun _ => none) xs vs
theorem Room.deeper {A : Around} {env : Env} (r : Room (n + 1) A) : Room n (A.deeper env) := by
  obtain ⟨a, b, d⟩ := r
  exact ⟨a, by show A.depth + 1 + 2 * n + 2 ≤ 900; omega, by show A.units + 3 + 20 * n + 100 ≤ 9000; omega⟩
theorem Room.less {m : Nat} {A : Around} (r : Room n A) (h : m ≤ n) : Room m A := ⟨r.1, by have := r.2.1; omega, by have := r.2.2; omega⟩
theorem CallV.more {m : Nat} {f : Value} {σ : Sg} {vs : List V} {Q : V → Sg → Prop} (h : CallV c n f σ vs Q) (k : n ≤ m) : CallV c m f σ vs Q := fun A s R rs r => h A s R rs (r.less k)
theorem CallV.mono {f : Value} {σ : Sg} {vs : List V} {Q Q' : V → Sg → Prop} (h : CallV c n f σ vs Q) (k : ∀ v σ, Q v σ → Q' v σ) : CallV c n f σ vs Q' := fun A s R rs r I e =>
  codeAny_mono (h A s R rs r I e) fun r s' z => by rcases r with e | (v | _ | _ | _) <;> first | exact z.elim | exact z.mono k
theorem fn_call (O : CxOK P c) {f : Addr} {xs : List String} {b : List St} {σ : Sg} {vs : List V} {Q : V → Sg → Prop} (hc : fnChk c.K f xs b = true) (hl : xs.length = vs.length)
    (h : wSs P c n b (frOf xs vs) σ fun fl _ σ' => match fl with | .ret v => Q v σ' | .next => Q .none σ' | .brk => False) : CallV c (n + 1) (.ref f) σ vs Q := by
  intro A s R rs hR I r
  unfold fnChk at hc
  split at hc
  · rename_i oc od fd osl ho
    split at hc
    · rename_i body hbody
      simp only [Bool.and_eq_true, beq_iff_eq, Bool.not_eq_true'] at hc
      obtain ⟨⟨⟨⟨⟨⟨⟨⟨⟨h1, h2⟩, h3⟩, h4⟩, h5⟩, h6⟩, h7⟩, h8⟩, h9⟩, h10⟩ := hc
      have h9 := List.all_eq_true.mp h9
      have X := Inv.X O I
      have len := r.length
      have hkd : ∀ y ∈ xs, fd.scope.names.lookup (S y) = some .local ∨ fd.scope.names.lookup (S y) = some .cell := fun y hy => by
        have := h9 y hy
        simp only [isBound, Bool.or_eq_true, beq_iff_eq] at this
        exact this
      have hcell : ∀ X, fd.scope.names.lookup X = some .cell → ∀ m, ((cellsFrom m fd.scope.names []).lookup X).isSome = true := fun X e m => cells_some (.inl (mem_lookup e))
      refine codeAny_call_cells (binds := (xs.map S).zip rs) hR.depth (X _ _ ho) rfl (O.lim.keeps I.base) (codeRec_of X h5) hbody (bind_simple h1 (by omega)) (by simpa using h3) (fun p hp => ?_) (fun s₁ x => ?_) h6 h7 h8
      · have : p.1 ∈ xs.map S := (List.of_mem_zip hp).1
        obtain ⟨y, hy, e⟩ := List.mem_map.mp this
        rw [← e]
        rcases hkd y hy with k | k
        · exact .inl k
        · exact .inr ⟨k, hcell _ k _⟩
      · generalize hE : callEnvC fd s.heap.objs.size f = env at x ⊢
        have eS : env.scope = fd.scope := by rw [← hE]; rfl
        have eL : env.locals = s.heap.objs.size := by rw [← hE]; rfl
        have eG : env.globals = mainGlobals := by rw [← hE]; exact h2
        have eB : env.builtins = builtinsNs := by rw [← hE]; exact h4
        have eC : env.cells = cellsFrom (s.heap.objs.size + 1) fd.scope.names [] := by rw [← hE]; rfl
        obtain ⟨⟨⟨h₁, t₁, rfl⟩, ns, keep, fresh⟩, cell, apart, above⟩ := x
        dsimp only at ns keep cell
        let wr : List Addr := env.locals :: env.cells.filterMap fun p => env.cells.lookup p.1
        have inW : ∀ X a, env.cells.lookup X = some a → a ∈ wr := fun X a e => .tail _ (List.mem_filterMap.mpr ⟨(X, a), mem_lookup e, e⟩)
        have ofW : ∀ a ∈ wr, a = env.locals ∨ ∃ X, env.cells.lookup X = some a := fun a ha => by
          rcases List.mem_cons.mp ha with rfl | ha
          · exact .inl rfl
          · obtain ⟨p, _, e⟩ := List.mem_filterMap.mp ha; exact .inr ⟨p.1, e⟩
        have ge : ∀ a ∈ wr, s.heap.get? a = none := fun a ha => by
          cases e : s.heap.get? a with
          | none => rfl
          | some o =>
            have lt := Heap.lt_size e
            rcases ofW a ha with rfl | ⟨X, ha⟩
            · exact absurd lt (Nat.not_lt.mpr fresh)
            · have := above X a (mem_lookup ha)
              exact absurd lt (Nat.not_lt.mpr (Nat.le_trans fresh (Nat.le_of_lt this)))
        obtain ⟨oL, gL, nL⟩ := NsO.of ns
        have exW : ∀ a ∈ wr, ∃ o, h₁.get? a = some o := fun a ha => by
          rcases ofW a ha with rfl | ⟨X, ha⟩
          · exact ⟨_, gL⟩
          · obtain ⟨o, e, _⟩ := cell X a ha; exact ⟨o, e⟩
        obtain ⟨I₁, X₁, hw₁, sub₁⟩ := I.rawNews wr ge keep exW
        have rawAt : ∀ a ∈ wr, ∀ o, h₁.get? a = some o → rawOf wr h₁ R a = some o := fun a ha o e => by simp [rawOf, ha, e]
        have kindE : ∀ X, env.kindOf X = fd.scope.names.lookup X := fun X => by unfold Env.kindOf; rw [eS]
        have F₁ : FrOK c h₁ (own σ (rawOf wr h₁ R)) (rawOf wr h₁ R) env (frOf xs vs) := by
          refine ⟨by rw [eS]; exact h8, eG, eB, ⟨oL, _, rawAt _ (.head _) _ gL, nL, fun y v e => ?_⟩, fun X a e => ?_, fun X Y a e1 e2 => ?_, fun X e => ?_⟩
          · obtain ⟨rv, z1, z2⟩ := binds_at (c := c) (kindOf := env.kindOf) (m := fun _ => none) (cm := fun _ => none) (r.ext X₁) hl (fun y hy => by rw [kindE]; exact hkd y hy) (fun _ _ q => by simp at q) y v e
            refine ⟨rv, z1, ?_⟩
            rcases z2 with ⟨k, z⟩ | ⟨k, z⟩
            · exact .inl ⟨k, z⟩
            · obtain ⟨a, ha⟩ := Option.isSome_iff_exists.mp (hcell (S y) (by rw [← kindE]; exact k) (s.heap.objs.size + 1))
              rw [← eC] at ha
              obtain ⟨o, g, d⟩ := cell _ _ ha
              exact .inr ⟨.inl k, a, o, ha, rawAt _ (inW _ _ ha) _ g, by rw [d, z]⟩
          · obtain ⟨o, g, d⟩ := cell _ _ e
            refine ⟨fun q => ?_, o, _, rawAt _ (inW _ _ e) _ g, d⟩
            have := above X a (mem_lookup e)
            rw [q] at this; exact absurd this (Nat.lt_irrefl _)
          · have := apart_eq apart (mem_lookup e1) (mem_lookup e2) rfl
            exact (Prod.mk.inj this).1
          · have := hcell X (by rw [← kindE]; exact e) (s.heap.objs.size + 1)
            rw [← eC] at this
            exact Option.isSome_iff_exists.mp this
        have chk : chkSs env.scope b body = true := by rw [eS]; exact h10
        refine wpAny_mono (snd_Ss O b chk h (A.deeper env) { s with heap := h₁, toks := t₁ } _ hR.deeper I₁ F₁) (fun fl s' p => ?_) fun _ _ e => e.elim
        obtain ⟨h₂, t₂, σ₂, R₂, fr₂, rfl, I₂, X₂, Y₂, F₂, fl', fi, q⟩ := p
        have sub : ∀ a o, R a = some o → R₂ a = some o := fun a o e => by
          have nf : ¬ frAddr env a := fun f => by
            have : a ∈ wr := by
              rcases f with rfl | ⟨X, f⟩
              · exact .head _
              · exact inW _ _ f
            have g := ge a this
            rw [I.raw _ _ e] at g; cases g
          rw [Y₂.off a nf]; exact sub₁ a o e
        have X₃ : Ext h₂ (own σ₂ R₂) h₂ (own σ₂ R) := Ext.rawLess sub
        have XX := (X₁.trans X₂).trans X₃
        cases fl' with
        | next => cases (show fl = .next from fi); exact ⟨h₂, t₂, .none, σ₂, rfl, I₂.rawLess sub, XX, by simp [RelV], q⟩
        | brk => exact q.elim
        | ret v => obtain ⟨rv, rfl, rr⟩ := fi; exact ⟨h₂, t₂, v, σ₂, rfl, I₂.rawLess sub, XX, rr.ext X₃, q⟩
    · cases hc
  · cases hc
end
end PyW
namespace PyW
section
variable {c : Cx} {P : Pg} {n : Nat}
theorem tc_frames (args : Args) : Code.frames (.builtin "type.__call__" args) = 0 := by rfl
theorem tc_guard (args : Args) : Code.isGuard (.builtin "type.__call__" args) = false := by
  first | rfl | (unfold Code.isGuard; decide +kernel)
theorem tc_caller (args : Args) : Code.isCaller (.builtin "type.__call__" args) = false := by rfl
theorem Room.creation {A : Around} {args : Args} (r : Room (n + 1) A) : Room n (A.under (.builtin "type.__call__" args)) := by
  obtain ⟨a, b, d⟩ := r
  have w : Code.weight (.builtin "type.__call__" args) ≤ 2 := by
    unfold Code.weight
    rw [tc_frames, tc_guard, tc_caller]
    split <;> simp
  have u : Code.cUnits (.builtin "type.__call__" args) ≤ 20 := by
    show 1 + 3 * Code.frames _ ≤ 20
    rw [tc_frames]; omega
  refine ⟨a, ?_, ?_⟩
  · have : A.depth + Code.weight (.builtin "type.__call__" args) + 2 * n + 2 ≤ 900 := by omega
    exact this
  · have : A.units + Code.cUnits (.builtin "type.__call__" args) + 20 * n + 100 ≤ 9000 := by omega
    exact this
theorem cls_call (O : CxOK P c) {cl : String} {C fI : Addr} {σ : Sg} {vs : List V} {Q : V → Sg → Prop} (hC : c.mg (S cl) = some (.ref C)) (hm : makesIn c.K C = true) (hi : findIn c.K (.ref C) "__init__" = some (some (.ref fI))) (hf : isFn c.K (.ref fI) = true)
    (h : ∀ d, σ d = none → CallV c n (.ref fI) (upd σ d (.ns [])) (.obj cl d :: vs) fun v σ' => v = .none ∧ Q (.obj cl d) σ') : CallV c (n + 1) (.ref C) σ vs Q := by
  intro A s R rs hR I r
  have X := Inv.X O I
  obtain ⟨hh, g, dr, t, os⟩ := s
  dsimp only at I r X
  let d : Addr := hh.objs.size
  let h2 : Heap := (hh.push emptyDict).push (instObj C hh.objs.size)
  have k : ∀ b o, hh.get? b = some o → h2.get? b = some o := fun b o e => Heap.get?_push_of_some _ (Heap.get?_push_of_some _ e)
  have gd : hh.get? d = none := get_size _
  have hd : h2.get? d = some emptyDict := Heap.get?_push_of_some _ (Heap.get?_push_size _ rfl)
  have hx : h2.get? (hh.objs.size + 1) = some (instObj C hh.objs.size) := by
    have := Heap.get?_push_size (hh.push emptyDict) (o := instObj C hh.objs.size) rfl
    rw [Heap.size_push] at this; exact this
  have nd : σ d = none := by
    cases e : σ d with
    | none => rfl
    | some o => exact absurd (.inl (by rw [e]; exact fun z => nomatch z)) I.fresh
  have I₂ : Inv c h2 (upd σ d (.ns [])) R := I.ownNew (o := .ns []) k gd I.fresh1 hd ⟨[], 0, rfl, by simp, trivial⟩
  have X₂ : Ext hh (own σ R) h2 (own (upd σ d (.ns [])) R) := Ext.ownNew k gd
  have nx : ¬ own (upd σ d (.ns [])) R (hh.objs.size + 1) := fun w => by
    rcases (own_upd _).mp w with w | w
    · obtain ⟨o, e⟩ := I.own_get w
      exact absurd (Heap.lt_size e) (Nat.not_lt.mpr (Nat.le_succ _))
    · exact absurd w (Nat.succ_ne_self _)
  have ro : RelV c h2 (own (upd σ d (.ns [])) R) (.obj cl d) (.ref (hh.objs.size + 1)) := by
    simp only [RelV]; exact ⟨_, C, rfl, hC, hx, nx⟩
  refine make_core (makes_of X hm) (looks_findIn X hi) (fun self => bind_fn X self (beq_iff_eq.mp hf)) (.inl rfl) ?_
  refine codeAny_mono (h d nd (A.under (.builtin "type.__call__" ⟨.ref C :: rs, []⟩)) ⟨h2, g, dr, t, os⟩ R (.ref (hh.objs.size + 1) :: rs) hR.creation I₂ (.cons ro (r.ext X₂))) fun q s' z => ?_
  rcases q with e | (v | _ | _ | _) <;> first | exact z.elim | skip
  obtain ⟨h', tk, w, σ', rfl, I', X', rw', rfl, q⟩ := z
  simp only [RelV] at rw'
  exact ⟨rw', h', tk, .obj cl d, σ', rfl, I', X₂.trans X', ro.ext X', q⟩
end
end PyW
namespace PyW
/-! ### continuations by name -/
noncomputable def ov {α : Type} (o : Option α) (Q : α → Prop) : Prop := ∃ v, o = some v ∧ Q v
noncomputable def ovr {α : Type} (o : Option α) (σ : Sg) (Q : α → Sg → Prop) : Prop := ∃ v, o = some v ∧ Q v σ
theorem ov_some {α : Type} (v : α) (Q : α → Prop) : ov (some v) Q = Q v := propext ⟨fun ⟨_, e, q⟩ => by cases e; exact q, fun q => ⟨v, rfl, q⟩⟩
theorem ovr_some {α : Type} (v : α) (σ : Sg) (Q : α → Sg → Prop) : ovr (some v) σ Q = Q v σ := propext ⟨fun ⟨_, e, q⟩ => by cases e; exact q, fun q => ⟨v, rfl, q⟩⟩
theorem ov_of {α : Type} {o : Option α} {v : α} {Q : α → Prop} (h : o = some v) (k : Q v) : ov o Q := ⟨v, h, k⟩
theorem ovr_of {α : Type} {o : Option α} {v : α} {σ : Sg} {Q : α → Sg → Prop} (h : o = some v) (k : Q v σ) : ovr o σ Q := ⟨v, h, k⟩
noncomputable def kBd (body : Fm → Sg → (Fl → Fm → Sg → Prop) → Prop) (K : Fl → Fm → Sg → Prop) (fr : Fm) (σ : Sg) : Prop := body fr σ K
/-! ### the equations that a tree is unfolded by -/
theorem upd_app {α β : Type} [DecidableEq α] (f : α → Option β) (a : α) (b : β) (x : α) : upd f a b x = if x = a then some b else f x := rfl
theorem updS (f : Fm) (a : String) (b : V) (x : String) : upd f a b x = if x = a then some b else f x := rfl
theorem updsL_cons (fr : Fm) (x : String) (xs : List String) (v : V) (vs : List V) : updsL fr (x :: xs) (v :: vs) = updsL (upd fr x v) xs vs := rfl
theorem updsL_nil (fr : Fm) : updsL fr [] [] = fr := rfl
theorem capt_app (free : List String) (fr : Fm) (x : String) : capt free fr x = if x ∈ free then fr x else none := rfl
theorem bind_name (x : String) (v : V) (fr : Fm) : bindT (.name x) v fr = some (upd fr x v) := rfl
theorem bind_names (xs : List String) (vs : List V) (fr : Fm) : bindT (.names xs) (.tup vs) fr = if xs.length = vs.length then some (updsL fr xs vs) else none := rfl
theorem lk_eq {β : Type} (x : String) (v : β) (l : List (String × β)) : List.lookup x ((x, v) :: l) = some v := by simp
theorem lk_ne {β : Type} {x y : String} (v : β) (l : List (String × β)) (h : (x == y) = false) : List.lookup x ((y, v) :: l) = List.lookup x l := by simp [List.lookup_cons, h]
theorem setL_nil (x : String) (v : V) : setL [] x v = [(x, v)] := rfl
theorem setL_cons (y : String) (w : V) (r : List (String × V)) (x : String) (v : V) : setL ((y, w) :: r) x v = if y = x then (y, v) :: r else (y, w) :: setL r x v := rfl
section
variable {P : Pg} {σ : Sg} {Q : V → Prop} {QB : Bool → Prop} {QS : V → Sg → Prop}
theorem e_add (a b : Int) : wBin .add (.int a) (.int b) Q = Q (.int (a + b)) := rfl
theorem e_sub (a b : Int) : wBin .sub (.int a) (.int b) Q = Q (.int (a - b)) := rfl
theorem e_mul (a b : Int) : wBin .mul (.int a) (.int b) Q = ((a.natAbs < 2 ^ 60 ∨ b.natAbs < 2 ^ 60) ∧ Q (.int (a * b))) := rfl
theorem e_fdiv (a b : Int) : wBin .fdiv (.int a) (.int b) Q = ((b ≠ 0 ∧ b.natAbs < 2 ^ 30) ∧ Q (.int (a.fdiv b))) := rfl
theorem e_mod (a b : Int) : wBin .mod (.int a) (.int b) Q = (b ≠ 0 ∧ Q (.int (a.fmod b))) := rfl
theorem e_addt (a b : List V) : wBin .add (.tup a) (.tup b) Q = (a.length + b.length ≤ sizeLine ∧ Q (.tup (a ++ b))) := rfl
theorem e_addl (a b : List V) : wBin .add (.list a) (.list b) Q = (a.length + b.length ≤ sizeLine ∧ Q (.list (a ++ b))) := rfl
theorem e_lt (a b : Int) : wCmp .lt (.int a) (.int b) QB = QB (decide (a < b)) := rfl
theorem e_le (a b : Int) : wCmp .le (.int a) (.int b) QB = QB (decide (a ≤ b)) := rfl
theorem e_gt (a b : Int) : wCmp .gt (.int a) (.int b) QB = QB (decide (a > b)) := rfl
theorem e_ge (a b : Int) : wCmp .ge (.int a) (.int b) QB = QB (decide (a ≥ b)) := rfl
theorem e_eq (a b : V) : wCmp .eq a b QB = ((plain 8 a ∧ plain 8 b) ∧ QB (pyEq a b)) := rfl
theorem e_ne (a b : V) : wCmp .ne a b QB = ((plain 8 a ∧ plain 8 b) ∧ QB (!pyEq a b)) := rfl
theorem e_eqi (a b : Int) : pyEq (.int a) (.int b) = decide (a = b) := by
  show (a == b) = _
  by_cases h : a = b <;> simp [h]
theorem e_eqb (a b : Bool) : pyEq (.bool a) (.bool b) = decide (a = b) := by cases a <;> cases b <;> rfl
theorem e_eqs (a b : String) : pyEq (.str a) (.str b) = decide (a = b) := by
  show (S a == S b) = _
  by_cases h : a = b
  · subst h; simp
  · rw [S_ne h]; simp [h]
theorem e_eqt (a b : List V) : pyEq (.tup a) (.tup b) = pyEqs a b := rfl
theorem e_eql (a b : List V) : pyEq (.list a) (.list b) = pyEqs a b := rfl
theorem e_eqn : pyEqs [] [] = true := rfl
theorem e_eqc (a b : V) (l m : List V) : pyEqs (a :: l) (b :: m) = (pyEq a b && pyEqs l m) := rfl
theorem e_eqnc (b : V) (m : List V) : pyEqs [] (b :: m) = false := rfl
theorem e_eqcn (b : V) (m : List V) : pyEqs (b :: m) [] = false := rfl
theorem e_eqm {α : Type} [DecidableEq α] {f : α → V} (hf : ∀ x y, pyEq (f x) (f y) = decide (x = y)) : ∀ xs ys : List α, pyEqs (xs.map f) (ys.map f) = decide (xs = ys)
  | [], [] => by simp [e_eqn]
  | [], _ :: _ => by simp [e_eqnc]
  | _ :: _, [] => by simp [e_eqcn]
  | x :: xs, y :: ys => by
    simp only [List.map_cons, e_eqc, hf, e_eqm hf xs ys, List.cons.injEq]
    by_cases h : x = y <;> simp [h]
theorem p_none (n : Nat) : plain n .none = True := by cases n <;> rfl
theorem p_bool (n : Nat) (b : Bool) : plain n (.bool b) = True := by cases n <;> rfl
theorem p_int (n : Nat) (b : Int) : plain n (.int b) = True := by cases n <;> rfl
theorem p_str (n : Nat) (b : String) : plain n (.str b) = True := by cases n <;> rfl
theorem p_tup (n : Nat) (l : List V) : plain (n + 1) (.tup l) = plains n l := by simp [plain]
theorem p_list (n : Nat) (l : List V) : plain (n + 1) (.list l) = plains n l := by simp [plain]
theorem p_nil (n : Nat) : plains n [] = True := by simp [plains]
theorem p_cons (n : Nat) (v : V) (l : List V) : plains n (v :: l) = (plain n v ∧ plains n l) := by simp [plains]
theorem p_map {α : Type} {n : Nat} {f : α → V} (h : ∀ x, plain n (f x)) : ∀ l : List α, plains n (l.map f)
  | [] => by simp [plains]
  | x :: l => by simp only [List.map_cons, plains]; exact ⟨h x, p_map h l⟩
theorem e_is (x : V) : wCx σ .is x .none QB = QB (isNone x) := propext ⟨fun h => h.2, fun h => ⟨rfl, h⟩⟩
theorem e_isNot (x : V) : wCx σ .isNot x .none QB = QB (!isNone x) := propext ⟨fun h => h.2, fun h => ⟨rfl, h⟩⟩
theorem e_isIn (x l : V) : wCx σ .isIn x l QB = (∃ xs, asSeq σ l = some xs ∧ (plains 7 xs ∧ plain 7 x) ∧ QB (xs.any fun y => pyEq y x)) := rfl
theorem e_eqv (a b : V) : wCx σ .eqv a b QB = ((plain 8 (res σ a) ∧ plain 8 (res σ b)) ∧ QB (pyEq (res σ a) (res σ b))) := rfl
theorem e_nev (a b : V) : wCx σ .nev a b QB = ((plain 8 (res σ a) ∧ plain 8 (res σ b)) ∧ QB (!pyEq (res σ a) (res σ b))) := rfl
theorem e_ne0 (a : V) : wCx σ .ne0 a (.list []) QB = (∃ l, asList σ a = some l ∧ QB (!l.isEmpty)) := propext ⟨fun h => h.2, fun h => ⟨rfl, h⟩⟩
theorem e_tb (b : Bool) : wTruth (.bool b) QB = QB b := rfl
theorem e_tn : wTruth .none QB = QB false := rfl
theorem e_idxt (l : List V) (i : Int) : wIdx σ (.tup l) (.int i) Q = ∃ v, atIdx l i = some v ∧ Q v := rfl
theorem e_idxl (l : List V) (i : Int) : wIdx σ (.list l) (.int i) Q = ∃ v, atIdx l i = some v ∧ Q v := rfl
theorem e_idxr {a : Addr} {l : List V} (h : σ a = some (.list l)) (i : Int) : wIdx σ (.ref a) (.int i) Q = ∃ v, atIdx l i = some v ∧ Q v := by
  show wItO (σ a) i Q = _
  rw [h]; rfl
theorem e_idxd {a : Addr} {l : List (Int × V)} (h : σ a = some (.dict l)) (i : Int) : wIdx σ (.ref a) (.int i) Q = ∃ v, l.lookup i = some v ∧ Q v := by
  show wItO (σ a) i Q = _
  rw [h]; rfl
theorem at_0 (v : V) (l : List V) : atIdx (v :: l) 0 = some v := rfl
theorem at_1 (v w : V) (l : List V) : atIdx (v :: w :: l) 1 = some w := rfl
theorem at_2 (v w u : V) (l : List V) : atIdx (v :: w :: u :: l) 2 = some u := rfl
theorem at_nat (l : List V) (i : Nat) : atIdx l (i : Int) = l[i]? := by simp [atIdx]
theorem at_last (l : List V) (v : V) : atIdx (l ++ [v]) (-1) = some v := by
  unfold atIdx
  rw [if_neg (by omega), if_pos (by simp; omega)]
  have : ((-1 : Int) + ((l ++ [v]).length : Int)).toNat = l.length := by simp; omega
  rw [this]; simp
theorem sq_ref {a : Addr} {l : List V} (h : σ a = some (.list l)) : asSeq σ (.ref a) = some l := by
  show (match σ a with | some (.list l) => some l | _ => none) = _
  rw [h]
theorem e_lent (l : List V) : wBi σ .len [.tup l] QS = QS (.int l.length) σ := propext ⟨fun ⟨_, e, q⟩ => by cases e; exact q, fun q => ⟨_, rfl, q⟩⟩
theorem e_lenl (l : List V) : wBi σ .len [.list l] QS = QS (.int l.length) σ := propext ⟨fun ⟨_, e, q⟩ => by cases e; exact q, fun q => ⟨_, rfl, q⟩⟩
theorem e_lenr {a : Addr} {l : List V} (h : σ a = some (.list l)) : wBi σ .len [.ref a] QS = QS (.int l.length) σ := by
  have e' : lenOf σ (.ref a) = some l.length := by show (match σ a with | some (.list l) => some l.length | _ => none) = _; rw [h]
  exact propext ⟨fun ⟨_, e, q⟩ => by rw [e'] at e; cases e; exact q, fun q => ⟨_, e', q⟩⟩
theorem e_sum (ns : List Int) : wBi σ .sum [.list (ns.map .int)] QS = QS (.int ns.sum) σ := propext ⟨fun ⟨_, e, q⟩ => by rw [allInts_map] at e; cases e; exact q, fun q => ⟨_, allInts_map _, q⟩⟩
theorem e_min (a b : Int) : wBi σ .min [.int a, .int b] QS = QS (.int (if b < a then b else a)) σ := rfl
theorem e_max (a b : Int) : wBi σ .max [.int a, .int b] QS = QS (.int (if b > a then b else a)) σ := rfl
theorem e_srt (ns : List Int) : wBi σ .sorted [.list (ns.map .int)] QS = (ns.length < 64 ∧ QS (.list ((sortZ ns).map .int)) σ) := by
  refine propext ⟨fun ⟨l', ⟨e, z⟩, q⟩ => ?_, fun ⟨z, q⟩ => ⟨_, ⟨by simp [sortable, allInts_map], z⟩, q⟩⟩
  simp only [sortable, allInts_map, Option.some.injEq] at e; subst e; exact ⟨z, q⟩
theorem e_srtd {a : Addr} {l : List (Int × V)} (h : σ a = some (.dict l)) : wBi σ .sorted [.ref a] QS = (l.length < 64 ∧ QS (.list ((sortZ (l.map (·.1))).map .int)) σ) := by
  refine propext ⟨fun ⟨l', ⟨e, z⟩, q⟩ => ?_, fun ⟨z, q⟩ => ⟨_, ⟨by simp [sortable, h], by simpa using z⟩, q⟩⟩
  simp only [sortable, h, Option.some.injEq] at e; subst e; exact ⟨by simpa using z, q⟩
theorem e_tupt (l : List V) : wBi σ .tuple [.tup l] QS = QS (.tup l) σ := propext ⟨fun ⟨_, e, q⟩ => by cases e; exact q, fun q => ⟨_, rfl, q⟩⟩
theorem e_tupl (l : List V) : wBi σ .tuple [.list l] QS = QS (.tup l) σ := propext ⟨fun ⟨_, e, q⟩ => by cases e; exact q, fun q => ⟨_, rfl, q⟩⟩
theorem e_tupr {a : Addr} {l : List V} (h : σ a = some (.list l)) : wBi σ .tuple [.ref a] QS = QS (.tup l) σ := by
  have e' : asSeq σ (.ref a) = some l := sq_ref h
  exact propext ⟨fun ⟨_, e, q⟩ => by rw [e'] at e; cases e; exact q, fun q => ⟨_, e', q⟩⟩
theorem e_lstl (isO : Bool) (l : List V) : wBi σ (.list isO) [.list l] QS = QL isO QS l σ := propext ⟨fun ⟨_, e, q⟩ => by cases e; exact q, fun q => ⟨_, rfl, q⟩⟩
theorem e_lstt (isO : Bool) (l : List V) : wBi σ (.list isO) [.tup l] QS = QL isO QS l σ := propext ⟨fun ⟨_, e, q⟩ => by cases e; exact q, fun q => ⟨_, rfl, q⟩⟩
theorem e_lstr {a : Addr} (isO : Bool) {l : List V} (h : σ a = some (.list l)) : wBi σ (.list isO) [.ref a] QS = QL isO QS l σ := by
  have e' : asSeq σ (.ref a) = some l := sq_ref h
  exact propext ⟨fun ⟨_, e, q⟩ => by rw [e'] at e; cases e; exact q, fun q => ⟨_, e', q⟩⟩
theorem e_rng1 (a : Int) : wBi σ .range [.int a] QS = QS (.rng 0 a) σ := rfl
theorem e_rng2 (a b : Int) : wBi σ .range [.int a, .int b] QS = QS (.rng a b) σ := rfl
theorem e_QLf (l : List V) : QL false QS l σ = QS (.list l) σ := by simp [QL]
theorem e_QLt (l : List V) : QL true QS l σ = ∀ a, σ a = none → QS (.ref a) (upd σ a (.list l)) := by simp [QL]
theorem e_app {a : Addr} {l : List V} (h : σ a = some (.list l)) (v : V) : wMe σ .append (.ref a) [v] QS = (l.length < sizeLine ∧ QS .none (upd σ a (.list (l ++ [v])))) := by
  refine propext ⟨fun ⟨l', ⟨e, z⟩, q⟩ => ?_, fun ⟨z, q⟩ => ⟨_, ⟨h, z⟩, q⟩⟩
  rw [h] at e; cases e; exact ⟨z, q⟩
theorem e_ext {a : Addr} {l : List V} (h : σ a = some (.list l)) (x y : Int) : wMe σ .extend (.ref a) [.rng x y] QS = ((okRange x y ∧ l.length + (y - x).toNat < sizeLine) ∧ QS .none (upd σ a (.list (l ++ rngV x y)))) := by
  refine propext ⟨fun ⟨l', ⟨e, z⟩, q⟩ => ?_, fun ⟨z, q⟩ => ⟨_, ⟨h, z⟩, q⟩⟩
  rw [h] at e; cases e; exact ⟨z, q⟩
theorem e_pop {a : Addr} {l : List V} {v : V} (h : σ a = some (.list (l ++ [v]))) : wMe σ .pop (.ref a) [] QS = QS v (upd σ a (.list l)) := by
  refine propext ⟨?_, fun q => ⟨l, v, h, q⟩⟩
  rintro ⟨l', v', e, q⟩
  rw [h] at e
  simp only [Option.some.injEq, O.list.injEq] at e
  have e1 := congrArg List.reverse e
  simp only [List.reverse_append, List.reverse_cons, List.reverse_nil, List.nil_append, List.cons_append, List.cons.injEq, List.reverse_inj] at e1
  rw [e1.1, e1.2]; exact q
theorem e_get {a : Addr} {l : List (Int × V)} (h : σ a = some (.dict l)) (k : Int) (d : V) : wMe σ .get (.ref a) [.int k, d] QS = QS ((l.lookup k).getD d) σ := propext ⟨fun ⟨_, e, q⟩ => by rw [h] at e; cases e; exact q, fun q => ⟨_, h, q⟩⟩
theorem e_sapp {a : Addr} {l : List V} (h : σ a = some (.list l)) : Me.self σ .append (.ref a) = True := eq_true ⟨_, h⟩
theorem e_sext {a : Addr} {l : List V} (h : σ a = some (.list l)) : Me.self σ .extend (.ref a) = True := eq_true ⟨_, h⟩
theorem e_spop {a : Addr} {l : List V} (h : σ a = some (.list l)) : Me.self σ .pop (.ref a) = True := eq_true ⟨_, h⟩
theorem e_sget {a : Addr} {l : List (Int × V)} (h : σ a = some (.dict l)) : Me.self σ .get (.ref a) = True := eq_true ⟨_, h⟩
theorem e_attr {cl x : String} {d : Addr} {l : List (String × V)} (h : σ d = some (.ns l)) : wAttr P σ x (.obj cl d) Q = (P.fld cl x = true ∧ ∃ v, l.lookup x = some v ∧ Q v) := by simp only [wAttr, h]
theorem e_sattr {cl x : String} {v : V} {d : Addr} {l : List (String × V)} {K : Sg → Prop} (h : σ d = some (.ns l)) : wSetAttr P σ x v (.obj cl d) K = ((P.fld cl x = true ∧ (setL l x v).length ≤ 1000) ∧ K (upd σ d (.ns (setL l x v)))) := by simp only [wSetAttr, h]
theorem e_setl {a : Addr} {l : List V} {v : V} {i : Int} {K : Sg → Prop} (h : σ a = some (.list l)) : wSet σ v (.ref a) (.int i) K = ∃ j, idxOf l i = some j ∧ K (upd σ a (.list (l.set j v))) := by simp only [wSet, h]
theorem e_setd {a : Addr} {l : List (Int × V)} {v : V} {i : Int} {K : Sg → Prop} (h : σ a = some (.dict l)) : wSet σ v (.ref a) (.int i) K = (l.length < sizeLine ∧ K (upd σ a (.dict (setD l i v)))) := by simp only [wSet, h]
theorem i_list (l : List V) : itemsOf σ (.list l) = some l := rfl
theorem i_tup (l : List V) : itemsOf σ (.tup l) = some l := rfl
theorem i_rng {a b : Int} (h : okRange a b) : itemsOf σ (.rng a b) = some (rngV a b) := by
  unfold okRange at h
  simp only [itemsOf, h, if_true, and_self]
theorem e_frz {a : Addr} {l : List V} (h : σ a = some (.list l)) : wFrz σ (.ref a) QS = QS (.list l) (del σ a) := by
  refine propext ⟨?_, fun q => ⟨l, h, q⟩⟩
  rintro ⟨l', e, q⟩
  rw [h] at e; cases e; exact q
theorem del_upd {a : Addr} {o : O} (h : σ a = none) : del (upd σ a o) a = σ := by
  funext b
  by_cases e : b = a
  · subst e; simp [del, h]
  · simp [del, upd, e]
theorem del_ne {a b : Addr} {o : O} (h : b ≠ a) : del (upd σ b o) a = upd (del σ a) b o := by
  funext x
  by_cases e : x = a
  · subst e; simp [del, upd, Ne.symm h]
  · simp [del, upd, e]
theorem del_none {a : Addr} (h : σ a = none) : del σ a = σ := by
  funext x
  by_cases e : x = a
  · subst e; simp [del, h]
  · simp [del, e]
theorem rl_ref {a : Addr} {l : List V} (h : σ a = some (.list l)) : res σ (.ref a) = .list l := by simp only [res, h]
theorem rl_list (l : List V) : res σ (.list l) = .list l := rfl
theorem al_ref {a : Addr} {l : List V} (h : σ a = some (.list l)) : asList σ (.ref a) = some l := by simp only [asList, h]
theorem al_list (l : List V) : asList σ (.list l) = some l := rfl
/-- a comprehension whose turns do not change what is owned -/
theorem loopC_pure {α : Type} {step : V → Sg → (Option V → Sg → Prop) → Prop} {K : List V → Sg → Prop} (f : α → V) (g : α → Option V) (σ : Sg) : ∀ (xs : List α) (acc : List V), (∀ x ∈ xs, ∀ K' : Option V → Sg → Prop, K' (g x) σ → step (f x) σ K') → K (acc ++ xs.filterMap g) σ → loopC step (xs.map f) acc σ K
  | [], acc, _, h => by simpa [loopC] using h
  | x :: xs, acc, hs, h => by
    simp only [List.map_cons, loopC]
    refine hs x (.head _) _ (loopC_pure f g σ xs _ (fun y hy => hs y (.tail _ hy)) ?_)
    cases e : g x <;> simpa [List.filterMap_cons, e] using h
/-- a loop with an invariant over the items gone over -/
theorem loopS_inv {α : Type} {t : TL} {body : Fm → Sg → (Fl → Fm → Sg → Prop) → Prop} {Q : Fl → Fm → Sg → Prop} (f : α → V) (J : List α → List α → Fm → Sg → Prop)
    (turn : ∀ done x rest fr σ (K : Fl → Fm → Sg → Prop), J done (x :: rest) fr σ → (∀ fr₂ σ₂, J (done ++ [x]) rest fr₂ σ₂ → K .next fr₂ σ₂) → (∀ fl fr₂ σ₂, fl ≠ .next → Q (match fl with | .brk => .next | fl => fl) fr₂ σ₂ → K fl fr₂ σ₂) → ovr (bindT t (f x) fr) σ (kBd body K))
    (fin : ∀ done fr σ, J done [] fr σ → Q .next fr σ) :
    ∀ (xs done : List α) (fr : Fm) (σ : Sg), J done xs fr σ → loopS t body (xs.map f) fr σ Q
  | [], done, fr, σ, h => fin done fr σ h
  | x :: xs, done, fr, σ, h => by
    refine turn done x xs fr σ _ h (fun fr₂ σ₂ z => loopS_inv f J turn fin xs _ fr₂ σ₂ z) fun fl fr₂ σ₂ n z => ?_
    cases fl with
    | next => exact absurd rfl n
    | brk => exact z
    | ret v => exact z
/-- a comprehension with an invariant over the items gone over -/
theorem loopC_inv {α : Type} {step : V → Sg → (Option V → Sg → Prop) → Prop} {Q : List V → Sg → Prop} (f : α → V) (J : List α → List α → List V → Sg → Prop)
    (turn : ∀ done x rest acc σ (K : Option V → Sg → Prop), J done (x :: rest) acc σ → (∀ o σ₂, J (done ++ [x]) rest (acc ++ o.toList) σ₂ → K o σ₂) → step (f x) σ K)
    (fin : ∀ done acc σ, J done [] acc σ → Q acc σ) :
    ∀ (xs done : List α) (acc : List V) (σ : Sg), J done xs acc σ → loopC step (xs.map f) acc σ Q
  | [], done, acc, σ, h => fin done acc σ h
  | x :: xs, done, acc, σ, h => turn done x xs acc σ _ h fun o σ₂ z => loopC_inv f J turn fin xs _ _ σ₂ z
theorem size4 {n : Nat} (h : n ≤ 1000) : n ≤ sizeLine := by rw [sizeLine_eq]; omega
theorem size5 {n : Nat} (h : n ≤ 1000) : n < sizeLine := by rw [sizeLine_eq]; omega
end
end PyW
namespace PyW
noncomputable def kV {α : Type} (Q : α → Sg → Prop) (σ : Sg) (v : α) : Prop := Q v σ
noncomputable def kB (Q : V → Sg → Prop) (b : Bool) (σ : Sg) : Prop := Q (.bool b) σ
noncomputable def kNotT (Q : V → Sg → Prop) (σ : Sg) (b : Bool) : Prop := Q (.bool !b) σ
noncomputable def kNot (Q : V → Sg → Prop) (v : V) (σ : Sg) : Prop := wTruth v (kNotT Q σ)
noncomputable def kNB (Q : Bool → Sg → Prop) (b : Bool) (σ : Sg) : Prop := Q (!b) σ
noncomputable def kTr (Q : Bool → Sg → Prop) (v : V) (σ : Sg) : Prop := wTruth v (kV Q σ)
noncomputable def kNeg (Q : V → Sg → Prop) (v : V) (σ : Sg) : Prop := match v with | .int i => Q (.int (-i)) σ | _ => False
noncomputable def kBin2 (op : BO) (a : V) (Q : V → Sg → Prop) (b : V) (σ : Sg) : Prop := wBin op a b (kV Q σ)
noncomputable def kCmp2 (op : CO) (a : V) (Q : Bool → Sg → Prop) (b : V) (σ : Sg) : Prop := wCmp op a b (kV Q σ)
noncomputable def kCx2 (op : CX) (a : V) (Q : Bool → Sg → Prop) (b : V) (σ : Sg) : Prop := wCx σ op a b (kV Q σ)
noncomputable def kTup (Q : V → Sg → Prop) (vs : List V) (σ : Sg) : Prop := vs.length ≤ sizeLine ∧ Q (.tup vs) σ
noncomputable def kLst (isO : Bool) (Q : V → Sg → Prop) (vs : List V) (σ : Sg) : Prop := vs.length ≤ sizeLine ∧ QL isO Q vs σ
noncomputable def kIdx2 (a : V) (Q : V → Sg → Prop) (b : V) (σ : Sg) : Prop := wIdx σ a b (kV Q σ)
noncomputable def kUp3 (isO : Bool) (j : Int) (Q : V → Sg → Prop) (l : List V) (σ : Sg) : Prop := QL isO Q (l.take j.toNat) σ
noncomputable def kUp2 (isO : Bool) (a : V) (Q : V → Sg → Prop) (b : V) (σ : Sg) : Prop := match b with
  | .int j => 0 ≤ j ∧ ovr (asList σ a) σ (kUp3 isO j Q)
  | _ => False
noncomputable def kBi (b : Bi) (Q : V → Sg → Prop) (vs : List V) (σ : Sg) : Prop := wBi σ b vs Q
noncomputable def kMe2 (m : Me) (v : V) (Q : V → Sg → Prop) (vs : List V) (σ : Sg) : Prop := wMe σ m v vs Q
noncomputable def kCe (K : Option V → Sg → Prop) (v : V) (σ : Sg) : Prop := K (some v) σ
noncomputable def kFrz (Q : V → Sg → Prop) (v : V) (σ : Sg) : Prop := wFrz σ v Q
noncomputable def kEs2 (v : V) (Q : List V → Sg → Prop) (vs : List V) (σ : Sg) : Prop := Q (v :: vs) σ
noncomputable def kOver (Q : List V → Sg → Prop) (v : V) (σ : Sg) : Prop := ovr (itemsOf σ v) σ Q
noncomputable def kZ2 (a : V) (Q : List V → Sg → Prop) (b : V) (σ : Sg) : Prop := ∃ la lb, a = .list la ∧ b = .list lb ∧ Q (zipV la lb) σ
noncomputable def kFr (fr : Fm) (Q : Fm → Sg → Prop) (σ : Sg) : Prop := Q fr σ
noncomputable def kNx (Q : Fl → Fm → Sg → Prop) (fr : Fm) (σ : Sg) : Prop := Q .next fr σ
noncomputable def kEx (fr : Fm) (Q : Fl → Fm → Sg → Prop) (v : V) (σ : Sg) : Prop := Q .next fr σ
noncomputable def kRet (fr : Fm) (Q : Fl → Fm → Sg → Prop) (v : V) (σ : Sg) : Prop := Q (.ret v) fr σ
noncomputable def kFn (Q : V → Sg → Prop) (fl : Fl) (fr : Fm) (σ : Sg) : Prop := match fl with | .ret v => Q v σ | .next => Q .none σ | .brk => False
noncomputable def kSet (K : Sg → Prop) (σ : Sg) (a : Addr) (l : List V) (v : V) (j : Nat) : Prop := K (upd σ a (.list (l.set j v)))
section
variable (P : Pg) (c : Cx) (n : Nat)
noncomputable def kBin1 (op : BO) (r : E) (fr : Fm) (Q : V → Sg → Prop) (a : V) (σ : Sg) : Prop := wE P c n r fr σ (kBin2 op a Q)
noncomputable def kCmp1 (op : CO) (r : E) (fr : Fm) (Q : Bool → Sg → Prop) (a : V) (σ : Sg) : Prop := wE P c n r fr σ (kCmp2 op a Q)
noncomputable def kCx1 (op : CX) (r : E) (fr : Fm) (Q : Bool → Sg → Prop) (a : V) (σ : Sg) : Prop := wE P c n r fr σ (kCx2 op a Q)
noncomputable def kAndT (isAnd : Bool) (es : List E) (fr : Fm) (σ : Sg) (Q : V → Sg → Prop) (v : V) (b : Bool) : Prop := if b = isAnd then wAnd P c n isAnd es fr σ Q else Q v σ
noncomputable def kAnd (isAnd : Bool) (es : List E) (fr : Fm) (Q : V → Sg → Prop) (v : V) (σ : Sg) : Prop := wTruth v (kAndT P c n isAnd es fr σ Q v)
noncomputable def kIte (a b : E) (fr : Fm) (Q : V → Sg → Prop) (x : Bool) (σ : Sg) : Prop := if x = true then wE P c n a fr σ Q else wE P c n b fr σ Q
noncomputable def kIdx1 (b : E) (fr : Fm) (Q : V → Sg → Prop) (a : V) (σ : Sg) : Prop := wE P c n b fr σ (kIdx2 a Q)
noncomputable def kUp1 (isO : Bool) (b : E) (fr : Fm) (Q : V → Sg → Prop) (a : V) (σ : Sg) : Prop := wE P c n b fr σ (kUp2 isO a Q)
noncomputable def kAttr (x : String) (Q : V → Sg → Prop) (v : V) (σ : Sg) : Prop := wAttr P σ x v (kV Q σ)
noncomputable def kMe1 (m : Me) (es : List E) (fr : Fm) (Q : V → Sg → Prop) (v : V) (σ : Sg) : Prop := m.self σ v ∧ wEs P c n es fr σ (kMe2 m v Q)
noncomputable def kCall (fv : Value) (Q : V → Sg → Prop) (vs : List V) (σ : Sg) : Prop := CallV c n fv σ vs Q
noncomputable def kMc2 (f : Addr) (v : V) (Q : V → Sg → Prop) (vs : List V) (σ : Sg) : Prop := CallV c n (.ref f) σ (v :: vs) Q
noncomputable def kMc1 (x : String) (es : List E) (fr : Fm) (Q : V → Sg → Prop) (v : V) (σ : Sg) : Prop := match v with
  | .obj cl d => ∃ f, MtIs c cl x f ∧ (∃ l, σ d = some (.ns l) ∧ l.lookup x = none) ∧ wEs P c n es fr σ (kMc2 c n f (.obj cl d) Q)
  | _ => False
noncomputable def kCi (elt : E) (fr : Fm) (K : Option V → Sg → Prop) (b : Bool) (σ : Sg) : Prop := if b = true then wE P c n elt fr σ (kCe K) else K none σ
noncomputable def kCs (ifs : List E) (elt : E) (K : Option V → Sg → Prop) (fr : Fm) (σ : Sg) : Prop := wAll P c n true ifs fr σ (kCi P c n elt fr K)
noncomputable def stepC (free : List String) (fr : Fm) (t : TL) (ifs : List E) (elt : E) (x : V) (σ : Sg) (K : Option V → Sg → Prop) : Prop := ovr (bindT t x (capt free fr)) σ (kCs P c n ifs elt K)
noncomputable def kComp (isO : Bool) (free : List String) (fr : Fm) (t : TL) (ifs : List E) (elt : E) (Q : V → Sg → Prop) (xs : List V) (σ : Sg) : Prop := loopC (stepC P c n free fr t ifs elt) xs [] σ (QL isO Q)
noncomputable def kEs1 (es : List E) (fr : Fm) (Q : List V → Sg → Prop) (v : V) (σ : Sg) : Prop := wEs P c n es fr σ (kEs2 v Q)
noncomputable def kAll (isAnd : Bool) (es : List E) (fr : Fm) (Q : Bool → Sg → Prop) (b : Bool) (σ : Sg) : Prop := if b = isAnd then wAll P c n isAnd es fr σ Q else Q b σ
noncomputable def kZ1 (b : E) (fr : Fm) (Q : List V → Sg → Prop) (a : V) (σ : Sg) : Prop := wE P c n b fr σ (kZ2 a Q)
noncomputable def kTA (x : String) (v : V) (fr : Fm) (Q : Fm → Sg → Prop) (o : V) (σ : Sg) : Prop := wSetAttr P σ x v o (kFr fr Q)
noncomputable def kTS2 (v o : V) (fr : Fm) (Q : Fm → Sg → Prop) (i : V) (σ : Sg) : Prop := wSet σ v o i (kFr fr Q)
noncomputable def kTS1 (i : E) (v : V) (fr : Fm) (Q : Fm → Sg → Prop) (o : V) (σ : Sg) : Prop := wE P c n i fr σ (kTS2 v o fr Q)
noncomputable def kAsg (t : T) (fr : Fm) (Q : Fl → Fm → Sg → Prop) (v : V) (σ : Sg) : Prop := wT P c n t v fr σ (kNx Q)
noncomputable def kIf (a b : List St) (fr : Fm) (Q : Fl → Fm → Sg → Prop) (x : Bool) (σ : Sg) : Prop := if x = true then wSs P c n a fr σ Q else wSs P c n b fr σ Q
noncomputable def bodyS (b : List St) (fr : Fm) (σ : Sg) (K : Fl → Fm → Sg → Prop) : Prop := wSs P c n b fr σ K
noncomputable def kFor (t : TL) (b : List St) (fr : Fm) (Q : Fl → Fm → Sg → Prop) (xs : List V) (σ : Sg) : Prop := loopS t (bodyS P c n b) xs fr σ Q
noncomputable def kSs (xs : List St) (Q : Fl → Fm → Sg → Prop) (fl : Fl) (fr : Fm) (σ : Sg) : Prop := match fl with
  | .next => wSs P c n xs fr σ Q
  | fl => Q fl fr σ
noncomputable def kWh (b : List St) (K Q : Fl → Fm → Sg → Prop) (fr : Fm) (x : Bool) (σ : Sg) : Prop := if x = true then wSs P c n b fr σ K else Q .next fr σ
noncomputable def whl (t : E) (b : List St) (fr : Fm) (σ : Sg) (Q : Fl → Fm → Sg → Prop) : Prop := wS P c n (.while t b) fr σ Q
end
section
variable {P : Pg} {c : Cx} {n : Nat} {fr : Fm} {σ : Sg} {Q : V → Sg → Prop} {QB : Bool → Sg → Prop} {QF : Fl → Fm → Sg → Prop} {QL' : List V → Sg → Prop} {QM : Fm → Sg → Prop}
theorem q_none : wE P c n .none fr σ Q = Q .none σ := rfl
theorem q_bool (b : Bool) : wE P c n (.bool b) fr σ Q = Q (.bool b) σ := rfl
theorem q_int (i : Int) : wE P c n (.int i) fr σ Q = Q (.int i) σ := rfl
theorem q_str (s : String) : wE P c n (.str s) fr σ Q = Q (.str s) σ := rfl
theorem q_var (x : String) : wE P c n (.var x) fr σ Q = ovr (fr x) σ Q := rfl
theorem q_bin (op : BO) (l r : E) : wE P c n (.bin op l r) fr σ Q = wE P c n l fr σ (kBin1 P c n op r fr Q) := rfl
theorem q_cmp (op : CO) (l r : E) : wE P c n (.cmp op l r) fr σ Q = wE P c n l fr σ (kCmp1 P c n op r fr (kB Q)) := rfl
theorem q_cx (op : CX) (l r : E) : wE P c n (.cx op l r) fr σ Q = wE P c n l fr σ (kCx1 P c n op r fr (kB Q)) := rfl
theorem q_and (es : List E) : wE P c n (.and es) fr σ Q = wAnd P c n true es fr σ Q := rfl
theorem q_or (es : List E) : wE P c n (.or es) fr σ Q = wAnd P c n false es fr σ Q := rfl
theorem q_not (e : E) : wE P c n (.not e) fr σ Q = wE P c n e fr σ (kNot Q) := rfl
theorem q_neg (e : E) : wE P c n (.neg e) fr σ Q = wE P c n e fr σ (kNeg Q) := rfl
theorem q_ite (t a b : E) : wE P c n (.ite t a b) fr σ Q = wB P c n t fr σ (kIte P c n a b fr Q) := rfl
theorem q_tup (es : List E) : wE P c n (.tup es) fr σ Q = wEs P c n es fr σ (kTup Q) := rfl
theorem q_lst (isO : Bool) (es : List E) : wE P c n (.lst isO es) fr σ Q = wEs P c n es fr σ (kLst isO Q) := rfl
theorem q_dict0 : wE P c n .dict0 fr σ Q = ∀ a, σ a = none → Q (.ref a) (upd σ a (.dict [])) := rfl
theorem q_idx (a b : E) : wE P c n (.idx a b) fr σ Q = wE P c n a fr σ (kIdx1 P c n b fr Q) := rfl
theorem q_upto (isO : Bool) (a b : E) : wE P c n (.upto isO a b) fr σ Q = wE P c n a fr σ (kUp1 P c n isO b fr Q) := rfl
theorem q_attr (e : E) (x : String) : wE P c n (.attr e x) fr σ Q = wE P c n e fr σ (kAttr P x Q) := rfl
theorem q_bi (b : Bi) (es : List E) : wE P c n (.bi b es) fr σ Q = wEs P c n es fr σ (kBi b Q) := rfl
theorem q_me (m : Me) (o : E) (es : List E) : wE P c n (.me m o es) fr σ Q = wE P c n o fr σ (kMe1 P c n m es fr Q) := rfl
theorem q_call (f : String) (es : List E) : wE P c n (.call f es) fr σ Q = ∃ fv, FnIs c f fv ∧ wEs P c n es fr σ (kCall c n fv Q) := rfl
theorem q_mcall (o : E) (x : String) (es : List E) : wE P c n (.mcall o x es) fr σ Q = wE P c n o fr σ (kMc1 P c n x es fr Q) := rfl
theorem q_comp (isO : Bool) (free : List String) (t : TL) (it : I) (ifs : List E) (elt : E) : wE P c n (.comp isO free t it ifs elt) fr σ Q = ((∀ y ∈ free, (fr y).isSome) ∧ wI P c n it fr σ (kComp P c n isO free fr t ifs elt Q)) := rfl
theorem q_frz (e : E) : wE P c n (.frz e) fr σ Q = wE P c n e fr σ (kFrz Q) := rfl
theorem q_nil : wEs P c n [] fr σ QL' = QL' [] σ := rfl
theorem q_cons (e : E) (es : List E) : wEs P c n (e :: es) fr σ QL' = wE P c n e fr σ (kEs1 P c n es fr QL') := rfl
theorem q_and1 (b : Bool) (e : E) : wAnd P c n b [e] fr σ Q = wE P c n e fr σ Q := rfl
theorem q_and2 (b : Bool) (e e' : E) (es : List E) : wAnd P c n b (e :: e' :: es) fr σ Q = wE P c n e fr σ (kAnd P c n b (e' :: es) fr Q) := rfl
theorem b_not (e : E) : wB P c n (.not e) fr σ QB = wB P c n e fr σ (kNB QB) := rfl
theorem b_and (es : List E) : wB P c n (.and es) fr σ QB = wAll P c n true es fr σ QB := rfl
theorem b_or (es : List E) : wB P c n (.or es) fr σ QB = wAll P c n false es fr σ QB := rfl
theorem b_cmp (op : CO) (l r : E) : wB P c n (.cmp op l r) fr σ QB = wE P c n l fr σ (kCmp1 P c n op r fr QB) := rfl
theorem b_cx (op : CX) (l r : E) : wB P c n (.cx op l r) fr σ QB = wE P c n l fr σ (kCx1 P c n op r fr QB) := rfl
theorem b_var (x : String) : wB P c n (.var x) fr σ QB = ovr (fr x) σ (kTr QB) := rfl
theorem b_attr (e : E) (x : String) : wB P c n (.attr e x) fr σ QB = wE P c n e fr σ (kAttr P x (kTr QB)) := rfl
theorem b_call (f : String) (es : List E) : wB P c n (.call f es) fr σ QB = ∃ fv, FnIs c f fv ∧ wEs P c n es fr σ (kCall c n fv (kTr QB)) := rfl
theorem b_mcall (o : E) (x : String) (es : List E) : wB P c n (.mcall o x es) fr σ QB = wE P c n o fr σ (kMc1 P c n x es fr (kTr QB)) := rfl
theorem a_nil (b : Bool) : wAll P c n b [] fr σ QB = QB b σ := rfl
theorem a_cons (b : Bool) (e : E) (es : List E) : wAll P c n b (e :: es) fr σ QB = wB P c n e fr σ (kAll P c n b es fr QB) := rfl
theorem i_over (e : E) : wI P c n (.over e) fr σ QL' = wE P c n e fr σ (kOver QL') := rfl
theorem i_zip (a b : E) : wI P c n (.zip a b) fr σ QL' = wE P c n a fr σ (kZ1 P c n b fr QL') := rfl
theorem t_tl (t : TL) (v : V) : wT P c n (.tl t) v fr σ QM = ovr (bindT t v fr) σ QM := rfl
theorem t_attr (e : E) (x : String) (v : V) : wT P c n (.attr e x) v fr σ QM = wE P c n e fr σ (kTA P x v fr QM) := rfl
theorem t_sub (e i : E) (v : V) : wT P c n (.sub e i) v fr σ QM = wE P c n e fr σ (kTS1 P c n i v fr QM) := rfl
theorem s_assign (t : T) (e : E) : wS P c n (.assign t e) fr σ QF = wE P c n e fr σ (kAsg P c n t fr QF) := rfl
theorem s_expr (e : E) : wS P c n (.expr e) fr σ QF = wE P c n e fr σ (kEx fr QF) := rfl
theorem s_ret (e : E) : wS P c n (.ret e) fr σ QF = wE P c n e fr σ (kRet fr QF) := rfl
theorem s_ret0 : wS P c n .ret0 fr σ QF = QF (.ret .none) fr σ := rfl
theorem s_cond (t : E) (a b : List St) : wS P c n (.cond t a b) fr σ QF = wB P c n t fr σ (kIf P c n a b fr QF) := rfl
theorem s_while (t : E) (b : List St) : wS P c n (.while t b) fr σ QF = whl P c n t b fr σ QF := rfl
theorem s_for (t : TL) (it : I) (b : List St) : wS P c n (.for t it b) fr σ QF = wI P c n it fr σ (kFor P c n t b fr QF) := rfl
theorem s_pass : wS P c n .pass fr σ QF = QF .next fr σ := rfl
theorem s_brk : wS P c n .brk fr σ QF = QF .brk fr σ := rfl
theorem s_nil : wSs P c n [] fr σ QF = QF .next fr σ := rfl
theorem s_cons (x : St) (xs : List St) : wSs P c n (x :: xs) fr σ QF = wS P c n x fr σ (kSs P c n xs QF) := rfl
theorem k_next (xs : List St) : kSs P c n xs QF .next fr σ = wSs P c n xs fr σ QF := rfl
theorem k_brk (xs : List St) : kSs P c n xs QF .brk fr σ = QF .brk fr σ := rfl
theorem k_ret (xs : List St) (v : V) : kSs P c n xs QF (.ret v) fr σ = QF (.ret v) fr σ := rfl
theorem k_fnr (v : V) : kFn Q (.ret v) fr σ = Q v σ := rfl
theorem k_fnn : kFn Q .next fr σ = Q .none σ := rfl
theorem k_neg (i : Int) : kNeg Q (.int i) σ = Q (.int (-i)) σ := rfl
theorem k_up2 (isO : Bool) (a : V) (j : Int) : kUp2 isO a Q (.int j) σ = (0 ≤ j ∧ ovr (asList σ a) σ (kUp3 isO j Q)) := rfl
theorem k_mc1 (x cl : String) (d : Addr) (es : List E) : kMc1 P c n x es fr Q (.obj cl d) σ = ∃ f, MtIs c cl x f ∧ (∃ l, σ d = some (.ns l) ∧ l.lookup x = none) ∧ wEs P c n es fr σ (kMc2 c n f (.obj cl d) Q) := rfl
theorem k_z2 (a b : List V) : kZ2 (.list a) QL' (.list b) σ = QL' (zipV a b) σ := propext ⟨fun ⟨_, _, x, y, q⟩ => by cases x; cases y; exact q, fun q => ⟨_, _, rfl, rfl, q⟩⟩
theorem whl_of {t : E} {b : List St} (J : Nat → Fm → Sg → Prop) (k : Nat) (h0 : J k fr σ) (hs : ∀ k fr σ (K : Fl → Fm → Sg → Prop), J k fr σ → (∀ m fr₂ σ₂, m < k → J m fr₂ σ₂ → K .next fr₂ σ₂) → (∀ fr₂ σ₂, QF .next fr₂ σ₂ → K .brk fr₂ σ₂) → (∀ v fr₂ σ₂, QF (.ret v) fr₂ σ₂ → K (.ret v) fr₂ σ₂) → wB P c n t fr σ (kWh P c n b K QF fr)) : whl P c n t b fr σ QF :=
  ⟨J, k, h0, fun k fr σ h => hs k fr σ (fun fl fr₂ σ₂ => match fl with
      | .next => ∃ m, m < k ∧ J m fr₂ σ₂
      | .brk => QF .next fr₂ σ₂
      | .ret v => QF (.ret v) fr₂ σ₂) h (fun m _ _ a b => ⟨m, a, b⟩) (fun _ _ a => a) (fun _ _ _ a => a)⟩
end
section
variable {σ : Sg} {Q : V → Prop} {QB : Bool → Prop} {P : Pg}
theorem o_idxt (l : List V) (i : Int) : wIdx σ (.tup l) (.int i) Q = ov (atIdx l i) Q := rfl
theorem o_idxl (l : List V) (i : Int) : wIdx σ (.list l) (.int i) Q = ov (atIdx l i) Q := rfl
theorem o_idxr {a : Addr} {l : List V} (h : σ a = some (.list l)) (i : Int) : wIdx σ (.ref a) (.int i) Q = ov (atIdx l i) Q := e_idxr h i
theorem o_idxd {a : Addr} {l : List (Int × V)} (h : σ a = some (.dict l)) (i : Int) : wIdx σ (.ref a) (.int i) Q = ov (l.lookup i) Q := e_idxd h i
theorem o_isIn {l : V} {xs : List V} (h : asSeq σ l = some xs) (x : V) : wCx σ .isIn x l QB = ((plains 7 xs ∧ plain 7 x) ∧ QB (xs.any fun y => pyEq y x)) := propext ⟨fun ⟨_, e, q⟩ => by rw [h] at e; cases e; exact q, fun q => ⟨_, h, q⟩⟩
theorem o_ne0 (a : V) {l : List V} (h : asList σ a = some l) : wCx σ .ne0 a (.list []) QB = QB (!l.isEmpty) := propext ⟨fun ⟨_, _, e, q⟩ => by rw [h] at e; cases e; exact q, fun q => ⟨rfl, _, h, q⟩⟩
theorem o_attr {cl x : String} {d : Addr} {l : List (String × V)} (h : σ d = some (.ns l)) : wAttr P σ x (.obj cl d) Q = (P.fld cl x = true ∧ ov (l.lookup x) Q) := e_attr h
theorem o_setl {a : Addr} {l : List V} {v : V} {i : Int} {K : Sg → Prop} (h : σ a = some (.list l)) : wSet σ v (.ref a) (.int i) K = ov (idxOf l i) (kSet K σ a l v) := e_setl h
end
end PyW
namespace PyW
noncomputable section
/-! ### the head: the top's run at one go, in the tree's form -/
noncomputable def runT (tb : String → Option Builtin) (p : Program) (w : World) (n₀ : Nat) (ann : Option Value) : Nat → SharedT → Thread → Option SharedT
  | 0, _, _ => none
  | n + 1, s, t => match through t with
    | true => some s
    | false => match stepOk n₀ ann t with
      | false => none
      | true => match stepT (denote tb) p w s t with
        | some x => runT tb p w n₀ ann n x.1 x.2
        | none => none
theorem runT_of {tb : String → Option Builtin} {p : Program} {w : World} {n₀ : Nat} {ann : Option Value} : ∀ {n : Nat} {s s' : SharedT} {t : Thread},
    runT tb p w n₀ ann n s t = some s' → topRun tb p w n₀ ann n s.abs t = some s'.abs
  | 0, _, _, _, h => by cases h
  | n + 1, s, s', t, h => by
    unfold runT at h
    unfold topRun
    cases ht : through t with
    | true => rw [ht] at h; cases h; rfl
    | false =>
      rw [ht] at h
      cases hk : stepOk n₀ ann t with
      | false => rw [hk] at h; cases h
      | true =>
        rw [hk] at h
        cases hs : stepT (denote tb) p w s t with
        | none => rw [hs] at h; cases h
        | some x =>
          rw [hs] at h
          obtain ⟨s₂, t₂⟩ := x
          simp only [stepT_spec hs]
          exact runT_of h
noncomputable def bootT (P : Params) : BT := ((boot_heap P).objs.toList.foldl (fun x o => (x.1.ins x.2 o, x.2 + 1)) (BT.nil, 0)).1
noncomputable def lookT (p q : Program) (loose : List Str) (Xt : Shared → Bool) {α : Type} (Yf : Shared → α) (P : Params) (s : Shared) :=
  ((staticsOk (importedModules p.main.body) (boot_heap P) s.heap && namesBound p s.heap && gensDone s && laidKept (boot_heap P) s.heap), openSeen q loose (importedModules p.main.body) Xt true s, Yf s)
noncomputable abbrev topT (p : Program) (N : Nat) (w : World) (os : OsState) : Option SharedT := runT treeTable p w 11 (some (.ref 6)) N ⟨bootT w.params, 11, (boot_heap w.params).life, Array.mk [], boot_drawn, boot_toks, os⟩ (topStub p)
theorem boot_size (w : World) : ((boot_heap w.params).isNs mainGlobals && (Array.mk (α := GenState) []).size == 0, (boot_heap w.params).objs.size, (boot_heap w.params).nsMap mainGlobals "__annotations__") = (true, 11, some (.ref 6)) := by kernel_rfl
theorem boot_tree (w : World) : absHeap (bootT w.params) 11 (boot_heap w.params).life = boot_heap w.params := by kernel_rfl
theorem left_of_run {p q : Program} {loose : List Str} {Xt : Shared → Bool} {α : Type} {Yf : Shared → α} {Ya : World → α} {N : Nat}
    (e : opening p = plainProg p.main.scope.names) (hN : Nat.ble 600 N = true) (f : ∀ s, fenceModules? p s = some s)
    (run : ∀ (w : World) (os : OsState), (topT p N w os).map (fun s => lookT p q loose Xt Yf w.params s.abs) = some (true, openGood q loose, Ya w)) :
    LeftO p q loose Xt Yf Ya N := fun w => by
  obtain ⟨⟨h, gs, d, k, os⟩, e, e'⟩ := Option.map_eq_some_iff.mp (boot_open e hN f w)
  obtain ⟨rfl, rfl, rfl, rfl⟩ : h = boot_heap w.params ∧ gs = Array.mk [] ∧ d = boot_drawn ∧ k = boot_toks := by simpa using e'
  obtain ⟨z1, z2, z3⟩ : _ ∧ _ ∧ _ := by simpa only [Prod.mk.injEq] using boot_size w
  obtain ⟨s₁, r, l⟩ := Option.map_eq_some_iff.mp (run w os)
  have r := runT_of r
  obtain ⟨l1, l2, l3⟩ : _ ∧ _ ∧ _ := by simpa only [lookT, Prod.mk.injEq] using l
  have t : topFrom treeTable p w N ⟨boot_heap w.params, Array.mk [], boot_drawn, boot_toks, os⟩ = some s₁.abs := by
    unfold topFrom
    dsimp only
    rw [z1, z2, z3]
    have : (⟨boot_heap w.params, Array.mk [], boot_drawn, boot_toks, os⟩ : Shared) = (⟨bootT w.params, 11, (boot_heap w.params).life, Array.mk [], boot_drawn, boot_toks, os⟩ : SharedT).abs := by
      unfold SharedT.abs; rw [boot_tree w]
    rw [this, r]
    show (match _ with | true => _ | false => _) = _
    rw [l1]
  unfold openEnds
  rw [e]
  show (topFrom _ _ _ _ _).map _ = _
  rw [t]
  show some (_, _) = _
  rw [l2, l3]
/-! ### what the law's walk wants of the top's state: names, classes, methods, functions -/
noncomputable def fldChk (K : Frag) (cl : String) (C : Addr) (x : String) : Bool :=
  nsIn K mainGlobals (S cl) == some (some (.ref C)) && plainGet K C (S x) && hasDictIn K C && (match findIn K (.ref C) (S x) with | some attr => noGet K attr | none => false) &&
  findIn K (.ref C) "__setattr__" == some (some (.builtin "object.__setattr__")) && plainOver K C && takerIn K C (S x) == some none
theorem fld_ok {c : Cx} (X : c.K.In c.base) (g : c.base.Ns mainGlobals c.mg) {cl x : String} {C : Addr} (h : fldChk c.K cl C x = true) : FieldOK c cl x := by
  unfold fldChk at h
  simp only [Bool.and_eq_true, beq_iff_eq] at h
  obtain ⟨⟨⟨⟨⟨⟨h1, h2⟩, h3⟩, h4⟩, h5⟩, h6⟩, h7⟩ := h
  refine ⟨C, mg_of X g h1, h2, h3, ?_, h5, h6, h7⟩
  cases e : findIn c.K (.ref C) (S x) with
  | none => rw [e] at h4; cases h4
  | some attr => rw [e] at h4; exact ⟨attr, rfl, h4⟩
noncomputable def mtChk (K : Frag) (cl : String) (C : Addr) (x : String) (f : Addr) : Bool :=
  nsIn K mainGlobals (S cl) == some (some (.ref C)) && plainGet K C (S x) && findIn K (.ref C) (S x) == some (some (.ref f)) && isFn K (.ref f) && keepIn K (.ref f)
theorem mt_ok {c : Cx} (X : c.K.In c.base) (g : c.base.Ns mainGlobals c.mg) {cl x : String} {C f : Addr} (h : mtChk c.K cl C x f = true) : MtIs c cl x f := by
  unfold mtChk at h
  simp only [Bool.and_eq_true, beq_iff_eq] at h
  obtain ⟨⟨⟨⟨h1, h2⟩, h3⟩, h4⟩, h5⟩ := h
  exact ⟨C, mg_of X g h1, h2, h3, h4, h5⟩
noncomputable def nmChk (K : Frag) (x : String) (v : Value) : Bool := nsIn K mainGlobals (S x) == some (some v) && keepIn K v
theorem nm_ok {c : Cx} (X : c.K.In c.base) (g : c.base.Ns mainGlobals c.mg) {x : String} {v : Value} (h : nmChk c.K x v = true) : FnIs c x v := by
  unfold nmChk at h
  simp only [Bool.and_eq_true, beq_iff_eq] at h
  exact ⟨mg_of X g h.1, h.2⟩
noncomputable def clChk (K : Frag) (cl : String) (C fI : Addr) : Bool := nsIn K mainGlobals (S cl) == some (some (.ref C)) && makesIn K C && findIn K (.ref C) "__init__" == some (some (.ref fI)) && isFn K (.ref fI)
theorem cl_ok {P : Pg} {c : Cx} (O : CxOK P c) {n : Nat} {cl : String} {C fI : Addr} {σ : Sg} {vs : List V} {Q : V → Sg → Prop} (hc : clChk c.K cl C fI = true)
    (h : ∀ d, σ d = none → CallV c n (.ref fI) (upd σ d (.ns [])) (.obj cl d :: vs) fun v σ' => v = .none ∧ Q (.obj cl d) σ') : CallV c (n + 1) (.ref C) σ vs Q := by
  unfold clChk at hc
  simp only [Bool.and_eq_true, beq_iff_eq] at hc
  obtain ⟨⟨⟨h1, h2⟩, h3⟩, h4⟩ := hc
  exact cls_call O (mg_of O.X O.g h1) h2 h3 h4 h
structure Facts where
  fields : List ((String × String) × Addr)
  names : List (String × Addr)
  classes : List (String × Addr × Addr)
  meths : List (String × Addr × String × Addr)
  fns : List (Addr × List String × List St)
  top : Addr
noncomputable def Facts.chk (F : Facts) (K : Frag) : Bool :=
  F.fields.all (fun x => fldChk K x.1.1 x.2 x.1.2) && (biFuns ++ biTypes).all (fun x => nsIn K mainGlobals (S x) == some none) && F.names.all (fun x => nmChk K x.1 (.ref x.2)) &&
  F.classes.all (fun x => clChk K x.1 x.2.1 x.2.2) && F.meths.all (fun x => mtChk K x.1 x.2.1 x.2.2.1 x.2.2.2) && F.fns.all (fun x => fnChk K x.1 x.2.1 x.2.2) && (K.lookup F.top).isSome && nsIn K mainGlobals (S "law") == some (some (.ref F.top))
theorem all_get {α : Type} {l : List α} {f : α → Bool} (h : l.all f = true) (i : Nat) {x : α} (e : l[i]? = some x) : f x = true :=
  List.all_eq_true.mp h x (List.mem_of_getElem? e)
section
variable {F : Facts} {K : Frag} (h : F.chk K = true)
include h
theorem Facts.parts : (F.fields.all (fun x => fldChk K x.1.1 x.2 x.1.2) = true ∧ (biFuns ++ biTypes).all (fun x => nsIn K mainGlobals (S x) == some none) = true) ∧ F.names.all (fun x => nmChk K x.1 (.ref x.2)) = true ∧
    F.classes.all (fun x => clChk K x.1 x.2.1 x.2.2) = true ∧ F.meths.all (fun x => mtChk K x.1 x.2.1 x.2.2.1 x.2.2.2) = true ∧ F.fns.all (fun x => fnChk K x.1 x.2.1 x.2.2) = true ∧ (K.lookup F.top).isSome = true ∧ nsIn K mainGlobals (S "law") = some (some (.ref F.top)) := by
  unfold Facts.chk at h
  simp only [Bool.and_eq_true, beq_iff_eq] at h
  obtain ⟨⟨⟨⟨⟨⟨⟨a1, a2⟩, a3⟩, a4⟩, a5⟩, a6⟩, a7⟩, a8⟩ := h
  refine ⟨⟨a1, ?_⟩, a3, a4, a5, a6, a7, a8⟩
  simpa only [beq_iff_eq] using a2
end
theorem bb1 : ∀ x ∈ biFuns, bootBuiltins (S x) = some (.builtin x) ∧ S x ≠ "__name__" := by
  intro x hx
  unfold biFuns at hx
  repeat (rcases List.mem_cons.mp hx with rfl | hx; exact ⟨by kernel_rfl, by decide⟩)
  cases hx
theorem bb2 : ∀ x ∈ biTypes, bootBuiltins (S x) = some (.type x) ∧ S x ≠ "__name__" := by
  intro x hx
  unfold biTypes at hx
  repeat (rcases List.mem_cons.mp hx with rfl | hx; exact ⟨by kernel_rfl, by decide⟩)
  cases hx
theorem Facts.cx {F : Facts} {P : Pg} {c : Cx} (hP : P.fields = F.fields.map (·.1)) (h : F.chk c.K = true) (X : c.K.In c.base) (g : c.base.Ns mainGlobals c.mg) (b : c.base.Ns builtinsNs c.mb) (lim : c.base.NoLimit)
    (hb : ∀ x : Str, x ≠ "__name__" → c.mb x = bootBuiltins x) : CxOK P c := by
  obtain ⟨⟨a1, a2⟩, _⟩ := F.parts h
  rw [List.all_eq_true] at a1 a2
  simp only [beq_iff_eq] at a2
  refine ⟨X, g, b, lim, fun cl x h => ?_, fun x hx => ?_, fun x hx => ?_⟩
  · have h' : (cl, x) ∈ P.fields := by simpa [Pg.fld] using h
    rw [hP] at h'
    obtain ⟨y, hy, e⟩ := List.mem_map.mp h'
    obtain ⟨⟨y1, y2⟩, C⟩ := y
    dsimp only at e
    obtain ⟨rfl, rfl⟩ := Prod.mk.inj e
    have q := a1 _ hy
    dsimp only at q
    exact fld_ok X g q
  · refine ⟨mg_none_of X g (a2 x (List.mem_append_left _ hx)), ?_⟩
    rw [hb _ (bb1 x hx).2, (bb1 x hx).1]
  · refine ⟨mg_none_of X g (a2 x (List.mem_append_right _ hx)), ?_⟩
    rw [hb _ (bb2 x hx).2, (bb2 x hx).1]
noncomputable def fragOf (h : Heap) : Frag := (List.range h.objs.size).filterMap fun a => (h.get? a).map fun o => (a, o)
theorem mem_of_lookup {α β : Type} [BEq α] [LawfulBEq α] : ∀ {l : List (α × β)} {a : α} {b : β}, l.lookup a = some b → (a, b) ∈ l
  | [], _, _, e => by cases e
  | (x, y) :: l, a, b, e => by
    rw [List.lookup_cons] at e
    cases q : a == x with
    | true =>
      rw [q] at e
      obtain rfl := eq_of_beq q
      cases e
      exact .head _
    | false =>
      rw [q] at e
      exact .tail _ (mem_of_lookup e)
theorem frag_in (h : Heap) : (fragOf h).In h := fun a o e => by
  obtain ⟨x, _, hx⟩ := List.mem_filterMap.mp (mem_of_lookup e)
  obtain ⟨o', h1, h2⟩ := Option.map_eq_some_iff.mp hx
  cases h2
  exact h1
noncomputable def hookF (F : Facts) : Hook := ⟨Bool, fun s => F.chk (fragOf s.heap), fun _ => true, fun _ h => ∃ K, Frag.In K h ∧ F.chk K = true, fun _ s e => ⟨fragOf s.heap, frag_in _, e⟩, fun _ _ _ ⟨K, a, b⟩ k => ⟨K, Frag.In.keeps a k, b⟩⟩
end
end PyW
namespace PyW
noncomputable def b_Row_init : List St :=
  [.assign (.attr (.var "self") "kind") (.var "kind"),
  .assign (.tl (.name "found")) .dict0,
  .for (.names ["a", "x"]) (.zip (.var "coefs") (.var "some"))
   [.assign (.sub (.var "found") (.var "x")) (.bin .add (.me .get (.var "found") [(.var "x"), (.int 0)]) (.var "a"))],
  .assign (.attr (.var "self") "parts") (.comp false ["found"] (.name "x") (.over (.bi .sorted [(.var "found")])) [(.cmp .ne (.idx (.var "found") (.var "x")) (.int 0))] (.tup [(.idx (.var "found") (.var "x")), (.var "x")])),
  .assign (.attr (.var "self") "c") (.var "c")]
noncomputable def p_Row_init : List String := ["self", "kind", "coefs", "some", "c"]
noncomputable def b_Row_turned : List St :=
  [.assign (.tl (.names ["coefs", "some"])) (.tup [(.comp false [] (.names ["a", "x"]) (.over (.attr (.var "self") "parts")) [] (.var "a")), (.comp false [] (.names ["a", "x"]) (.over (.attr (.var "self") "parts")) [] (.var "x"))]),
  .cond (.cmp .eq (.attr (.var "self") "kind") (.str "linear_le"))
   [.ret (.call "Row" [(.str "linear_le"), (.comp false [] (.name "a") (.over (.var "coefs")) [] (.neg (.var "a"))), (.var "some"), (.bin .sub (.neg (.attr (.var "self") "c")) (.int 1))])]
   [],
  .ret (.call "Row" [(.ite (.cmp .eq (.attr (.var "self") "kind") (.str "linear_eq")) (.str "linear_ne") (.str "linear_eq")), (.var "coefs"), (.var "some"), (.attr (.var "self") "c")])]
noncomputable def p_Row_turned : List String := ["self"]
noncomputable def b_Row_last : List St :=
  [.assign (.tl (.names ["opened", "lack", "reasons"])) (.tup [(.lst true []), (.attr (.var "self") "c"), (.lst true [])]),
  .for (.names ["a", "x"]) (.over (.attr (.var "self") "parts"))
   [.cond (.mcall (.var "store") "is_fixed" [(.var "x")])
     [.assign (.tl (.name "lack")) (.bin .sub (.var "lack") (.bin .mul (.var "a") (.mcall (.var "store") "value" [(.var "x")]))),
      .expr (.me .append (.var "reasons") [(.tup [(.var "x"), (.str "="), (.mcall (.var "store") "value" [(.var "x")])])])]
     [.expr (.me .append (.var "opened") [(.tup [(.var "a"), (.var "x")])])]],
  .ret (.tup [(.frz (.var "opened")), (.var "lack"), (.bi .tuple [(.frz (.var "reasons"))])])]
noncomputable def p_Row_last : List String := ["self", "store"]
noncomputable def b_Row_part : List St :=
  [.assign (.tl (.names ["opened", "lack", "reasons"])) (.mcall (.var "self") "last" [(.var "store")]),
  .cond (.and [(.cmp .eq (.bi .len [(.var "opened")]) (.int 0)), (.cmp .eq (.var "lack") (.int 0))])
   [.ret (.mcall (.var "store") "fail" [(.bin .add (.var "reasons") (.var "why"))])]
   [],
  .cond (.and [(.cmp .eq (.bi .len [(.var "opened")]) (.int 1)), (.cmp .eq (.bin .mod (.var "lack") (.idx (.idx (.var "opened") (.int 0)) (.int 0))) (.int 0))])
   [.ret (.mcall (.var "store") "strike" [(.tup [(.idx (.idx (.var "opened") (.int 0)) (.int 1)), (.str "!="), (.bin .fdiv (.var "lack") (.idx (.idx (.var "opened") (.int 0)) (.int 0)))]), (.bin .add (.var "reasons") (.var "why"))])]
   [],
  .ret (.bool true)]
noncomputable def p_Row_part : List String := ["self", "store", "why"]
noncomputable def b_put_behind : List St :=
  [.cond (.and [(.cmp .gt (.bi .len [(.var "found")]) (.int 0)), (.cmp .le (.var "low") (.bin .add (.idx (.idx (.var "found") (.neg (.int 1))) (.int 1)) (.int 1)))])
   [.cond (.cmp .gt (.var "high") (.idx (.idx (.var "found") (.neg (.int 1))) (.int 1)))
     [.assign (.sub (.var "found") (.neg (.int 1))) (.tup [(.idx (.idx (.var "found") (.neg (.int 1))) (.int 0)), (.var "high")])]
     []]
   [.expr (.me .append (.var "found") [(.tup [(.var "low"), (.var "high")])])]]
noncomputable def p_put_behind : List String := ["found", "low", "high"]
noncomputable def b_from_values : List St :=
  [.assign (.tl (.name "found")) (.lst true []),
  .for (.name "v") (.over (.bi .sorted [(.var "numbers")]))
   [.expr (.call "put_behind" [(.var "found"), (.var "v"), (.var "v")])],
  .ret (.bi .tuple [(.frz (.var "found"))])]
noncomputable def p_from_values : List String := ["numbers"]
noncomputable def b_least : List St :=
  [.ret (.idx (.idx (.var "d") (.int 0)) (.int 0))]
noncomputable def p_least : List String := ["d"]
noncomputable def b_greatest : List St :=
  [.ret (.idx (.idx (.var "d") (.neg (.int 1))) (.int 1))]
noncomputable def p_greatest : List String := ["d"]
noncomputable def b_values : List St :=
  [.assign (.tl (.name "found")) (.lst true []),
  .for (.names ["low", "high"]) (.over (.var "d"))
   [.expr (.me .extend (.var "found") [(.bi .range [(.var "low"), (.bin .add (.var "high") (.int 1))])])],
  .ret (.frz (.var "found"))]
noncomputable def p_values : List String := ["d"]
noncomputable def b_up_to : List St :=
  [.ret (.bi .tuple [(.comp false ["k"] (.names ["low", "high"]) (.over (.var "d")) [(.cmp .le (.var "low") (.var "k"))] (.tup [(.var "low"), (.bi .min [(.var "high"), (.var "k")])]))])]
noncomputable def p_up_to : List String := ["d", "k"]
noncomputable def b_from_on : List St :=
  [.ret (.bi .tuple [(.comp false ["k"] (.names ["low", "high"]) (.over (.var "d")) [(.cmp .ge (.var "high") (.var "k"))] (.tup [(.bi .max [(.var "low"), (.var "k")]), (.var "high")]))])]
noncomputable def p_from_on : List String := ["d", "k"]
noncomputable def b_without : List St :=
  [.ret (.bin .add (.call "up_to" [(.var "d"), (.bin .sub (.var "v") (.int 1))]) (.call "from_on" [(.var "d"), (.bin .add (.var "v") (.int 1))]))]
noncomputable def p_without : List String := ["d", "v"]
noncomputable def b_meet : List St :=
  [.assign (.tl (.names ["found", "i", "j"])) (.tup [(.lst true []), (.int 0), (.int 0)]),
  .while (.and [(.cmp .lt (.var "i") (.bi .len [(.var "d")])), (.cmp .lt (.var "j") (.bi .len [(.var "e")]))])
   [.assign (.tl (.names ["low", "high"])) (.tup [(.bi .max [(.idx (.idx (.var "d") (.var "i")) (.int 0)), (.idx (.idx (.var "e") (.var "j")) (.int 0))]), (.bi .min [(.idx (.idx (.var "d") (.var "i")) (.int 1)), (.idx (.idx (.var "e") (.var "j")) (.int 1))])]),
    .cond (.cmp .le (.var "low") (.var "high"))
     [.expr (.me .append (.var "found") [(.tup [(.var "low"), (.var "high")])])]
     [],
    .cond (.cmp .lt (.idx (.idx (.var "d") (.var "i")) (.int 1)) (.idx (.idx (.var "e") (.var "j")) (.int 1)))
     [.assign (.tl (.name "i")) (.bin .add (.var "i") (.int 1))]
     [.assign (.tl (.name "j")) (.bin .add (.var "j") (.int 1))]],
  .ret (.bi .tuple [(.frz (.var "found"))])]
noncomputable def p_meet : List String := ["d", "e"]
noncomputable def b_negation : List St :=
  [.assign (.tl (.names ["x", "sign", "k"])) (.var "literal"),
  .cond (.cmp .eq (.var "sign") (.str "<="))
   [.ret (.tup [(.var "x"), (.str ">="), (.bin .add (.var "k") (.int 1))])]
   [],
  .cond (.cmp .eq (.var "sign") (.str ">="))
   [.ret (.tup [(.var "x"), (.str "<="), (.bin .sub (.var "k") (.int 1))])]
   [],
  .ret (.ite (.cmp .eq (.var "sign") (.str "=")) (.tup [(.var "x"), (.str "!="), (.var "k")]) (.tup [(.var "x"), (.str "="), (.var "k")]))]
noncomputable def p_negation : List String := ["literal"]
noncomputable def b_struck : List St :=
  [.assign (.tl (.names ["sign", "k"])) (.tup [(.idx (.var "literal") (.int 1)), (.idx (.var "literal") (.int 2))]),
  .cond (.cmp .eq (.var "sign") (.str "<="))
   [.ret (.call "up_to" [(.var "d"), (.var "k")])]
   [],
  .cond (.cmp .eq (.var "sign") (.str ">="))
   [.ret (.call "from_on" [(.var "d"), (.var "k")])]
   [],
  .ret (.ite (.cmp .eq (.var "sign") (.str "=")) (.call "meet" [(.var "d"), (.tup [(.tup [(.var "k"), (.var "k")])])]) (.call "without" [(.var "d"), (.var "k")]))]
noncomputable def p_struck : List String := ["literal", "d"]
noncomputable def b_Store_init : List St :=
  [.assign (.attr (.var "self") "domains") (.lst true []),
  .assign (.attr (.var "self") "firsts") (.lst true []),
  .assign (.attr (.var "self") "trail") (.lst true []),
  .assign (.attr (.var "self") "marks") (.lst true []),
  .assign (.attr (.var "self") "news") .dict0,
  .assign (.attr (.var "self") "speaker") (.neg (.int 1)),
  .assign (.attr (.var "self") "is_failed") (.bool false),
  .assign (.attr (.var "self") "clash") (.tup [])]
noncomputable def p_Store_init : List String := ["self"]
noncomputable def b_Store_new_var : List St :=
  [.expr (.me .append (.attr (.var "self") "domains") [(.var "domain")]),
  .expr (.me .append (.attr (.var "self") "firsts") [(.var "domain")]),
  .cond (.cmp .eq (.var "domain") (.tup []))
   [.expr (.mcall (.var "self") "fail" [(.tup [])])]
   [],
  .ret (.bin .sub (.bi .len [(.attr (.var "self") "domains")]) (.int 1))]
noncomputable def p_Store_new_var : List String := ["self", "domain"]
noncomputable def b_Store_dom : List St :=
  [.ret (.idx (.attr (.var "self") "domains") (.var "x"))]
noncomputable def p_Store_dom : List String := ["self", "x"]
noncomputable def b_Store_low : List St :=
  [.ret (.call "least" [(.idx (.attr (.var "self") "domains") (.var "x"))])]
noncomputable def p_Store_low : List String := ["self", "x"]
noncomputable def b_Store_high : List St :=
  [.ret (.call "greatest" [(.idx (.attr (.var "self") "domains") (.var "x"))])]
noncomputable def p_Store_high : List String := ["self", "x"]
noncomputable def b_Store_is_fixed : List St :=
  [.assign (.tl (.name "domain")) (.idx (.attr (.var "self") "domains") (.var "x")),
  .ret (.and [(.cmp .eq (.bi .len [(.var "domain")]) (.int 1)), (.cmp .eq (.idx (.idx (.var "domain") (.int 0)) (.int 0)) (.idx (.idx (.var "domain") (.int 0)) (.int 1)))])]
noncomputable def p_Store_is_fixed : List String := ["self", "x"]
noncomputable def b_Store_value : List St :=
  [.ret (.idx (.idx (.idx (.attr (.var "self") "domains") (.var "x")) (.int 0)) (.int 0))]
noncomputable def p_Store_value : List String := ["self", "x"]
noncomputable def b_Store_enter : List St :=
  [.assign (.tl (.name "x")) (.idx (.var "literal") (.int 0)),
  .assign (.tl (.name "old")) (.idx (.attr (.var "self") "domains") (.var "x")),
  .assign (.tl (.name "fresh")) (.call "struck" [(.var "literal"), (.var "old")]),
  .cond (.cmp .eq (.var "fresh") (.tup []))
   [.ret (.mcall (.var "self") "fail" [(.bin .add (.ite (.cx .is (.var "reasons") .none) (.tup []) (.var "reasons")) (.tup [(.call "negation" [(.var "literal")])]))])]
   [],
  .cond (.cmp .eq (.var "fresh") (.var "old"))
   [.ret (.bool true)]
   [],
  .expr (.me .append (.attr (.var "self") "trail") [(.tup [(.var "x"), (.var "old"), (.var "literal"), (.var "reasons"), (.var "speaker")])]),
  .assign (.sub (.attr (.var "self") "domains") (.var "x")) (.var "fresh"),
  .assign (.sub (.attr (.var "self") "news") (.var "x")) (.bool true),
  .ret (.bool true)]
noncomputable def p_Store_enter : List String := ["self", "literal", "reasons", "speaker"]
noncomputable def b_Store_strike : List St :=
  [.ret (.mcall (.var "self") "enter" [(.var "literal"), (.bi .tuple [(.var "reasons")]), (.attr (.var "self") "speaker")])]
noncomputable def p_Store_strike : List String := ["self", "literal", "reasons"]
noncomputable def b_Store_decide : List St :=
  [.ret (.mcall (.var "self") "enter" [(.var "literal"), .none, (.neg (.int 1))])]
noncomputable def p_Store_decide : List String := ["self", "literal"]
noncomputable def b_Store_fail : List St :=
  [.assign (.attr (.var "self") "is_failed") (.bool true),
  .assign (.attr (.var "self") "clash") (.bi .tuple [(.var "reasons")]),
  .ret (.bool false)]
noncomputable def p_Store_fail : List String := ["self", "reasons"]
noncomputable def b_Store_push : List St :=
  [.expr (.me .append (.attr (.var "self") "marks") [(.bi .len [(.attr (.var "self") "trail")])])]
noncomputable def p_Store_push : List String := ["self"]
noncomputable def b_Store_pop : List St :=
  [.cond (.cmp .lt (.var "n") (.int 1))
   [.ret0]
   [],
  .assign (.tl (.name "mark")) (.idx (.attr (.var "self") "marks") (.bin .sub (.bi .len [(.attr (.var "self") "marks")]) (.var "n"))),
  .assign (.attr (.var "self") "marks") (.upto true (.attr (.var "self") "marks") (.bin .sub (.bi .len [(.attr (.var "self") "marks")]) (.var "n"))),
  .while (.cmp .gt (.bi .len [(.attr (.var "self") "trail")]) (.var "mark"))
   [.assign (.tl (.name "entry")) (.me .pop (.attr (.var "self") "trail") []),
    .assign (.sub (.attr (.var "self") "domains") (.idx (.var "entry") (.int 0))) (.idx (.var "entry") (.int 1))],
  .assign (.attr (.var "self") "news") .dict0,
  .assign (.attr (.var "self") "is_failed") (.cx .isIn (.tup []) (.attr (.var "self") "firsts")),
  .assign (.attr (.var "self") "clash") (.tup [])]
noncomputable def p_Store_pop : List String := ["self", "n"]
noncomputable def b_law_deal : List St :=
  [.assign (.sub (.var "deck") (.int 1)) (.bin .add (.idx (.var "deck") (.int 1)) (.int 1)),
  .cond (.cmp .le (.idx (.var "deck") (.int 1)) (.bi .len [(.idx (.var "deck") (.int 0))]))
   [.ret (.bin .mod (.idx (.idx (.var "deck") (.int 0)) (.bin .sub (.idx (.var "deck") (.int 1)) (.int 1))) (.var "width"))]
   [],
  .ret (.bin .mod (.bin .mod (.bin .add (.bin .add (.bin .mul (.bin .mul (.int 3) (.idx (.var "deck") (.int 1))) (.idx (.var "deck") (.int 1))) (.bin .mul (.int 8) (.idx (.var "deck") (.int 1)))) (.bi .len [(.idx (.var "deck") (.int 0))])) (.int 97)) (.var "width"))]
noncomputable def p_law_deal : List String := ["deck", "width"]
noncomputable def b_law_times : List St :=
  [.assign (.tl (.name "found")) (.int 0),
  .for (.names ["a", "y"]) (.over (.var "terms"))
   [.cond (.cmp .eq (.var "y") (.var "x"))
     [.assign (.tl (.name "found")) (.bin .add (.var "found") (.var "a"))]
     []],
  .ret (.var "found")]
noncomputable def p_law_times : List String := ["terms", "x"]
noncomputable def b_law_told_right : List St :=
  [.assign (.tl (.names ["opened", "lack", "reasons"])) (.mcall (.var "row") "last" [(.var "store")]),
  .assign (.tl (.names ["due", "left"])) (.tup [(.lst true []), (.var "goal")]),
  .for (.name "x") (.over (.bi .range [(.bi .len [(.var "lots")])]))
   [.assign (.tl (.name "times")) (.call "_law_times" [(.var "terms"), (.var "x")]),
    .cond (.and [(.cmp .ne (.var "times") (.int 0)), (.cmp .gt (.bi .len [(.idx (.var "lots") (.var "x"))]) (.int 1))])
     [.expr (.me .append (.var "due") [(.tup [(.var "times"), (.var "x")])])]
     [.cond (.cmp .ne (.var "times") (.int 0))
       [.assign (.tl (.name "left")) (.bin .sub (.var "left") (.bin .mul (.var "times") (.idx (.idx (.var "lots") (.var "x")) (.int 0))))]
       []]],
  .cond (.or [(.cx .nev (.bi (.list false) [(.var "opened")]) (.var "due")), (.cmp .ne (.var "lack") (.var "left"))])
   [.ret (.bool false)]
   [],
  .assign (.tl (.name "held")) (.comp false ["lots", "terms"] (.name "x") (.over (.bi .range [(.bi .len [(.var "lots")])])) [(.and [(.cmp .eq (.bi .len [(.idx (.var "lots") (.var "x"))]) (.int 1)), (.cmp .ne (.call "_law_times" [(.var "terms"), (.var "x")]) (.int 0))])] (.var "x")),
  .cond (.cmp .ne (.bi .sorted [(.comp false [] (.names ["x", "sign", "v"]) (.over (.var "reasons")) [] (.var "x"))]) (.var "held"))
   [.ret (.bool false)]
   [],
  .ret (.cmp .eq (.comp false ["lots"] (.names ["x", "sign", "v"]) (.over (.var "reasons")) [(.or [(.cmp .ne (.var "sign") (.str "=")), (.cmp .ne (.idx (.var "lots") (.var "x")) (.lst false [(.var "v")]))])] (.int 1)) (.lst false []))]
noncomputable def p_law_told_right : List String := ["row", "terms", "goal", "lots", "store"]
noncomputable def b_law_part_right : List St :=
  [.assign (.tl (.name "opened")) (.comp false ["lots", "terms"] (.name "x") (.over (.bi .range [(.bi .len [(.var "lots")])])) [(.and [(.cmp .gt (.bi .len [(.idx (.var "lots") (.var "x"))]) (.int 1)), (.cmp .ne (.call "_law_times" [(.var "terms"), (.var "x")]) (.int 0))])] (.var "x")),
  .assign (.tl (.name "fixed")) (.bi .sum [(.comp false ["lots", "terms"] (.name "x") (.over (.bi .range [(.bi .len [(.var "lots")])])) [(.cmp .eq (.bi .len [(.idx (.var "lots") (.var "x"))]) (.int 1))] (.bin .mul (.call "_law_times" [(.var "terms"), (.var "x")]) (.idx (.idx (.var "lots") (.var "x")) (.int 0))))]),
  .assign (.tl (.name "due")) (.bi (.list true) [(.var "lots")]),
  .cond (.cmp .eq (.bi .len [(.var "opened")]) (.int 1))
   [.assign (.tl (.name "x")) (.idx (.var "opened") (.int 0)),
    .assign (.sub (.var "due") (.var "x")) (.comp false ["fixed", "goal", "terms", "x"] (.name "v") (.over (.idx (.var "lots") (.var "x"))) [(.cmp .ne (.bin .add (.var "fixed") (.bin .mul (.call "_law_times" [(.var "terms"), (.var "x")]) (.var "v"))) (.var "goal"))] (.var "v"))]
   [],
  .assign (.tl (.name "is_right")) (.cmp .eq (.mcall (.var "row") "part" [(.var "store"), (.tup [])]) (.or [(.cmp .ne (.var "opened") (.lst false [])), (.cmp .ne (.var "fixed") (.var "goal"))])),
  .assign (.tl (.name "is_right")) (.and [(.var "is_right"), (.cx .eqv (.comp false ["store"] (.name "x") (.over (.bi .range [(.bi .len [(.var "lots")])])) [] (.call "values" [(.mcall (.var "store") "dom" [(.var "x")])])) (.var "due"))]),
  .ret (.and [(.var "is_right"), (.cmp .eq (.attr (.var "store") "is_failed") (.and [(.cmp .eq (.var "opened") (.lst false [])), (.cmp .eq (.var "fixed") (.var "goal"))]))])]
noncomputable def p_law_part_right : List String := ["row", "terms", "goal", "lots", "store"]
noncomputable def b_law : List St :=
  [.assign (.tl (.names ["deck", "store", "lots"])) (.tup [(.lst true [(.comp false [] (.name "cell") (.over (.upto false (.var "script") (.int 50))) [] (.bin .mod (.var "cell") (.int 60060))), (.int 0)]), (.call "Store" []), (.lst true [])]),
  .for (.name "x") (.over (.bi .range [(.bin .add (.int 1) (.call "_law_deal" [(.var "deck"), (.int 4)]))]))
   [.assign (.tl (.names ["low", "wide", "is_open"])) (.tup [(.bin .sub (.call "_law_deal" [(.var "deck"), (.int 3)]) (.int 1)), (.bin .add (.int 1) (.call "_law_deal" [(.var "deck"), (.int 3)])), (.cmp .lt (.call "_law_deal" [(.var "deck"), (.int 3)]) (.int 2))]),
    .expr (.me .append (.var "lots") [(.bin .add (.lst false [(.var "low")]) (.upto false (.comp false ["is_open", "low", "wide"] (.name "k") (.over (.tup [(.int 1), (.int 2)])) [(.var "is_open")] (.bin .add (.var "low") (.bin .mul (.var "k") (.var "wide")))) (.bin .add (.int 1) (.call "_law_deal" [(.var "deck"), (.int 2)]))))]),
    .expr (.mcall (.var "store") "new_var" [(.call "from_values" [(.idx (.var "lots") (.var "x"))])])],
  .assign (.tl (.name "terms")) (.comp false ["deck", "lots"] (.name "k") (.over (.bi .range [(.bin .add (.int 1) (.call "_law_deal" [(.var "deck"), (.int 5)]))])) [] (.tup [(.bin .sub (.call "_law_deal" [(.var "deck"), (.int 6)]) (.int 2)), (.call "_law_deal" [(.var "deck"), (.bi .len [(.var "lots")])])])),
  .assign (.tl (.names ["goal", "kind"])) (.tup [(.bin .sub (.call "_law_deal" [(.var "deck"), (.int 11)]) (.int 4)), (.idx (.lst false [(.str "linear_eq"), (.str "linear_ne"), (.str "linear_le")]) (.call "_law_deal" [(.var "deck"), (.int 3)]))]),
  .assign (.tl (.name "row")) (.call "Row" [(.var "kind"), (.comp false [] (.names ["a", "x"]) (.over (.var "terms")) [] (.var "a")), (.comp false [] (.names ["a", "x"]) (.over (.var "terms")) [] (.var "x")), (.var "goal")]),
  .assign (.tl (.name "other")) (.mcall (.var "row") "turned" []),
  .assign (.tl (.name "against")) (.comp false ["kind"] (.names ["a", "x"]) (.over (.var "terms")) [] (.tup [(.ite (.cmp .eq (.var "kind") (.str "linear_le")) (.neg (.var "a")) (.var "a")), (.var "x")])),
  .assign (.tl (.name "opposed")) (.ite (.cmp .eq (.var "kind") (.str "linear_le")) (.bin .sub (.neg (.var "goal")) (.int 1)) (.var "goal")),
  .assign (.tl (.name "floors")) (.lst true []),
  .for (.name "turn") (.over (.bi .range [(.bin .add (.int 1) (.call "_law_deal" [(.var "deck"), (.int 6)]))]))
   [.cond (.and [(.cmp .gt (.var "turn") (.int 0)), (.cmp .eq (.call "_law_deal" [(.var "deck"), (.int 4)]) (.int 3)), (.cx .ne0 (.var "floors") (.lst false []))])
     [.assign (.tl (.name "many")) (.bin .add (.int 1) (.call "_law_deal" [(.var "deck"), (.bi .len [(.var "floors")])])),
      .expr (.mcall (.var "store") "pop" [(.var "many")]),
      .assign (.tl (.names ["lots", "floors"])) (.tup [(.idx (.var "floors") (.bin .sub (.bi .len [(.var "floors")]) (.var "many"))), (.upto true (.var "floors") (.bin .sub (.bi .len [(.var "floors")]) (.var "many")))])]
     [.cond (.cmp .gt (.var "turn") (.int 0))
       [.assign (.tl (.names ["x", "way"])) (.tup [(.call "_law_deal" [(.var "deck"), (.bi .len [(.var "lots")])]), (.call "_law_deal" [(.var "deck"), (.int 3)])]),
        .expr (.me .append (.var "floors") [(.bi (.list true) [(.var "lots")])]),
        .expr (.mcall (.var "store") "push" []),
        .assign (.tl (.name "v")) (.idx (.idx (.var "lots") (.var "x")) (.call "_law_deal" [(.var "deck"), (.bi .len [(.idx (.var "lots") (.var "x"))])])),
        .expr (.mcall (.var "store") "decide" [(.tup [(.var "x"), (.idx (.lst false [(.str "="), (.str "<="), (.str ">=")]) (.var "way")), (.var "v")])]),
        .assign (.sub (.var "lots") (.var "x")) (.idx (.lst false [(.lst false [(.var "v")]), (.comp false ["v"] (.name "u") (.over (.idx (.var "lots") (.var "x"))) [(.cmp .le (.var "u") (.var "v"))] (.var "u")), (.comp false ["v"] (.name "u") (.over (.idx (.var "lots") (.var "x"))) [(.cmp .ge (.var "u") (.var "v"))] (.var "u"))]) (.var "way"))]
       []],
    .assign (.tl (.name "at")) (.bi .len [(.attr (.var "store") "trail")]),
    .cond (.or [(.not (.call "_law_told_right" [(.var "row"), (.var "terms"), (.var "goal"), (.var "lots"), (.var "store")])), (.not (.call "_law_told_right" [(.var "other"), (.var "against"), (.var "opposed"), (.var "lots"), (.var "store")]))])
     [.ret (.bool false)]
     [],
    .cond (.or [(.cmp .ne (.bi .len [(.attr (.var "store") "trail")]) (.var "at")), (.cx .nev (.comp false ["store"] (.name "x") (.over (.bi .range [(.bi .len [(.var "lots")])])) [] (.call "values" [(.mcall (.var "store") "dom" [(.var "x")])])) (.var "lots"))])
     [.ret (.bool false)]
     [],
    .expr (.mcall (.var "store") "push" []),
    .cond (.not (.call "_law_part_right" [(.var "row"), (.var "terms"), (.var "goal"), (.var "lots"), (.var "store")]))
     [.ret (.bool false)]
     [],
    .expr (.mcall (.var "store") "pop" [(.int 1)])],
  .ret (.bool true)]
noncomputable def p_law : List String := ["script"]
noncomputable def P02 : Pg := ⟨[("Row", "kind"), ("Row", "parts"), ("Row", "c"), ("Store", "domains"), ("Store", "firsts"), ("Store", "trail"), ("Store", "marks"), ("Store", "news"), ("Store", "speaker"), ("Store", "is_failed"), ("Store", "clash")]⟩
noncomputable def F02 : Facts where
  fields := [(("Row", "kind"), 100), (("Row", "parts"), 100), (("Row", "c"), 100), (("Store", "domains"), 353), (("Store", "firsts"), 353), (("Store", "trail"), 353), (("Store", "marks"), 353), (("Store", "news"), 353), (("Store", "speaker"), 353), (("Store", "is_failed"), 353), (("Store", "clash"), 353)]
  names := [("put_behind", 111), ("from_values", 118), ("least", 125), ("greatest", 132), ("values", 158), ("up_to", 163), ("from_on", 168), ("without", 175), ("meet", 182), ("negation", 189), ("struck", 196), ("_law_deal", 364), ("_law_times", 371), ("_law_told_right", 376), ("_law_part_right", 381), ("Row", 100), ("Store", 353)]
  classes := [("Row", 100, 33), ("Store", 353, 217)]
  meths := [("Row", 100, "turned", 38), ("Row", 100, "last", 71), ("Row", 100, "part", 78), ("Store", 353, "new_var", 224), ("Store", 353, "dom", 238), ("Store", 353, "low", 252), ("Store", 353, "high", 259), ("Store", 353, "is_fixed", 273), ("Store", 353, "value", 280), ("Store", 353, "enter", 301), ("Store", 353, "strike", 308), ("Store", 353, "decide", 315), ("Store", 353, "fail", 322), ("Store", 353, "push", 329), ("Store", 353, "pop", 336)]
  fns := [(111, p_put_behind, b_put_behind), (118, p_from_values, b_from_values), (125, p_least, b_least), (132, p_greatest, b_greatest), (158, p_values, b_values), (163, p_up_to, b_up_to), (168, p_from_on, b_from_on), (175, p_without, b_without), (182, p_meet, b_meet), (189, p_negation, b_negation), (196, p_struck, b_struck), (364, p_law_deal, b_law_deal), (371, p_law_times, b_law_times), (376, p_law_told_right, b_law_told_right), (381, p_law_part_right, b_law_part_right), (386, p_law, b_law), (33, p_Row_init, b_Row_init), (38, p_Row_turned, b_Row_turned), (71, p_Row_last, b_Row_last), (78, p_Row_part, b_Row_part), (217, p_Store_init, b_Store_init), (224, p_Store_new_var, b_Store_new_var), (238, p_Store_dom, b_Store_dom), (252, p_Store_low, b_Store_low), (259, p_Store_high, b_Store_high), (273, p_Store_is_fixed, b_Store_is_fixed), (280, p_Store_value, b_Store_value), (301, p_Store_enter, b_Store_enter), (308, p_Store_strike, b_Store_strike), (315, p_Store_decide, b_Store_decide), (322, p_Store_fail, b_Store_fail), (329, p_Store_push, b_Store_push), (336, p_Store_pop, b_Store_pop)]
  top := 386
end PyW
namespace PyW
structure L2 (c : Cx) : Prop where
  O : CxOK P02 c
  ok : F02.chk c.K = true
section
variable {c : Cx} (L : L2 c) {n : Nat} {σ : Sg} {vs : List V} {Q : V → Sg → Prop}
include L
theorem L2.nm (i : Nat) {x : String × Addr} (e : F02.names[i]? = some x) : FnIs c x.1 (.ref x.2) := nm_ok L.O.X L.O.g (all_get (F02.parts L.ok).2.1 i e)
theorem L2.mt (i : Nat) {x : String × Addr × String × Addr} (e : F02.meths[i]? = some x) : MtIs c x.1 x.2.2.1 x.2.2.2 := mt_ok L.O.X L.O.g (all_get (F02.parts L.ok).2.2.2.1 i e)
theorem L2.fn (i : Nat) {x : Addr × List String × List St} (e : F02.fns[i]? = some x) (hl : x.2.1.length = vs.length) (h : wSs P02 c n x.2.2 (frOf x.2.1 vs) σ (kFn Q)) : CallV c (n + 1) (.ref x.1) σ vs Q :=
  fn_call L.O (all_get (F02.parts L.ok).2.2.2.2.1 i e) hl h
theorem L2.cl (i : Nat) {x : String × Addr × Addr} (e : F02.classes[i]? = some x) (h : ∀ d, σ d = none → CallV c n (.ref x.2.2) (upd σ d (.ns [])) (.obj x.1 d :: vs) fun v σ' => v = .none ∧ Q (.obj x.1 d) σ') : CallV c (n + 1) (.ref x.2.1) σ vs Q :=
  cl_ok L.O (all_get (F02.parts L.ok).2.2.1 i e) h
theorem L2.n_put_behind : FnIs c "put_behind" (.ref 111) := L.nm 0 (x := ("put_behind", 111)) rfl
theorem L2.n_from_values : FnIs c "from_values" (.ref 118) := L.nm 1 (x := ("from_values", 118)) rfl
theorem L2.n_least : FnIs c "least" (.ref 125) := L.nm 2 (x := ("least", 125)) rfl
theorem L2.n_greatest : FnIs c "greatest" (.ref 132) := L.nm 3 (x := ("greatest", 132)) rfl
theorem L2.n_values : FnIs c "values" (.ref 158) := L.nm 4 (x := ("values", 158)) rfl
theorem L2.n_up_to : FnIs c "up_to" (.ref 163) := L.nm 5 (x := ("up_to", 163)) rfl
theorem L2.n_from_on : FnIs c "from_on" (.ref 168) := L.nm 6 (x := ("from_on", 168)) rfl
theorem L2.n_without : FnIs c "without" (.ref 175) := L.nm 7 (x := ("without", 175)) rfl
theorem L2.n_meet : FnIs c "meet" (.ref 182) := L.nm 8 (x := ("meet", 182)) rfl
theorem L2.n_negation : FnIs c "negation" (.ref 189) := L.nm 9 (x := ("negation", 189)) rfl
theorem L2.n_struck : FnIs c "struck" (.ref 196) := L.nm 10 (x := ("struck", 196)) rfl
theorem L2.n_law_deal : FnIs c "_law_deal" (.ref 364) := L.nm 11 (x := ("_law_deal", 364)) rfl
theorem L2.n_law_times : FnIs c "_law_times" (.ref 371) := L.nm 12 (x := ("_law_times", 371)) rfl
theorem L2.n_law_told_right : FnIs c "_law_told_right" (.ref 376) := L.nm 13 (x := ("_law_told_right", 376)) rfl
theorem L2.n_law_part_right : FnIs c "_law_part_right" (.ref 381) := L.nm 14 (x := ("_law_part_right", 381)) rfl
theorem L2.n_Row : FnIs c "Row" (.ref 100) := L.nm 15 (x := ("Row", 100)) rfl
theorem L2.n_Store : FnIs c "Store" (.ref 353) := L.nm 16 (x := ("Store", 353)) rfl
theorem L2.m_Row_turned : MtIs c "Row" "turned" 38 := L.mt 0 (x := ("Row", 100, "turned", 38)) rfl
theorem L2.m_Row_last : MtIs c "Row" "last" 71 := L.mt 1 (x := ("Row", 100, "last", 71)) rfl
theorem L2.m_Row_part : MtIs c "Row" "part" 78 := L.mt 2 (x := ("Row", 100, "part", 78)) rfl
theorem L2.m_Store_new_var : MtIs c "Store" "new_var" 224 := L.mt 3 (x := ("Store", 353, "new_var", 224)) rfl
theorem L2.m_Store_dom : MtIs c "Store" "dom" 238 := L.mt 4 (x := ("Store", 353, "dom", 238)) rfl
theorem L2.m_Store_low : MtIs c "Store" "low" 252 := L.mt 5 (x := ("Store", 353, "low", 252)) rfl
theorem L2.m_Store_high : MtIs c "Store" "high" 259 := L.mt 6 (x := ("Store", 353, "high", 259)) rfl
theorem L2.m_Store_is_fixed : MtIs c "Store" "is_fixed" 273 := L.mt 7 (x := ("Store", 353, "is_fixed", 273)) rfl
theorem L2.m_Store_value : MtIs c "Store" "value" 280 := L.mt 8 (x := ("Store", 353, "value", 280)) rfl
theorem L2.m_Store_enter : MtIs c "Store" "enter" 301 := L.mt 9 (x := ("Store", 353, "enter", 301)) rfl
theorem L2.m_Store_strike : MtIs c "Store" "strike" 308 := L.mt 10 (x := ("Store", 353, "strike", 308)) rfl
theorem L2.m_Store_decide : MtIs c "Store" "decide" 315 := L.mt 11 (x := ("Store", 353, "decide", 315)) rfl
theorem L2.m_Store_fail : MtIs c "Store" "fail" 322 := L.mt 12 (x := ("Store", 353, "fail", 322)) rfl
theorem L2.m_Store_push : MtIs c "Store" "push" 329 := L.mt 13 (x := ("Store", 353, "push", 329)) rfl
theorem L2.m_Store_pop : MtIs c "Store" "pop" 336 := L.mt 14 (x := ("Store", 353, "pop", 336)) rfl
theorem L2.f_put_behind (hl : p_put_behind.length = vs.length) (h : wSs P02 c n b_put_behind (frOf p_put_behind vs) σ (kFn Q)) : CallV c (n + 1) (.ref 111) σ vs Q := L.fn 0 (x := (111, p_put_behind, b_put_behind)) rfl hl h
theorem L2.f_from_values (hl : p_from_values.length = vs.length) (h : wSs P02 c n b_from_values (frOf p_from_values vs) σ (kFn Q)) : CallV c (n + 1) (.ref 118) σ vs Q := L.fn 1 (x := (118, p_from_values, b_from_values)) rfl hl h
theorem L2.f_least (hl : p_least.length = vs.length) (h : wSs P02 c n b_least (frOf p_least vs) σ (kFn Q)) : CallV c (n + 1) (.ref 125) σ vs Q := L.fn 2 (x := (125, p_least, b_least)) rfl hl h
theorem L2.f_greatest (hl : p_greatest.length = vs.length) (h : wSs P02 c n b_greatest (frOf p_greatest vs) σ (kFn Q)) : CallV c (n + 1) (.ref 132) σ vs Q := L.fn 3 (x := (132, p_greatest, b_greatest)) rfl hl h
theorem L2.f_values (hl : p_values.length = vs.length) (h : wSs P02 c n b_values (frOf p_values vs) σ (kFn Q)) : CallV c (n + 1) (.ref 158) σ vs Q := L.fn 4 (x := (158, p_values, b_values)) rfl hl h
theorem L2.f_up_to (hl : p_up_to.length = vs.length) (h : wSs P02 c n b_up_to (frOf p_up_to vs) σ (kFn Q)) : CallV c (n + 1) (.ref 163) σ vs Q := L.fn 5 (x := (163, p_up_to, b_up_to)) rfl hl h
theorem L2.f_from_on (hl : p_from_on.length = vs.length) (h : wSs P02 c n b_from_on (frOf p_from_on vs) σ (kFn Q)) : CallV c (n + 1) (.ref 168) σ vs Q := L.fn 6 (x := (168, p_from_on, b_from_on)) rfl hl h
theorem L2.f_without (hl : p_without.length = vs.length) (h : wSs P02 c n b_without (frOf p_without vs) σ (kFn Q)) : CallV c (n + 1) (.ref 175) σ vs Q := L.fn 7 (x := (175, p_without, b_without)) rfl hl h
theorem L2.f_meet (hl : p_meet.length = vs.length) (h : wSs P02 c n b_meet (frOf p_meet vs) σ (kFn Q)) : CallV c (n + 1) (.ref 182) σ vs Q := L.fn 8 (x := (182, p_meet, b_meet)) rfl hl h
theorem L2.f_negation (hl : p_negation.length = vs.length) (h : wSs P02 c n b_negation (frOf p_negation vs) σ (kFn Q)) : CallV c (n + 1) (.ref 189) σ vs Q := L.fn 9 (x := (189, p_negation, b_negation)) rfl hl h
theorem L2.f_struck (hl : p_struck.length = vs.length) (h : wSs P02 c n b_struck (frOf p_struck vs) σ (kFn Q)) : CallV c (n + 1) (.ref 196) σ vs Q := L.fn 10 (x := (196, p_struck, b_struck)) rfl hl h
theorem L2.f_law_deal (hl : p_law_deal.length = vs.length) (h : wSs P02 c n b_law_deal (frOf p_law_deal vs) σ (kFn Q)) : CallV c (n + 1) (.ref 364) σ vs Q := L.fn 11 (x := (364, p_law_deal, b_law_deal)) rfl hl h
theorem L2.f_law_times (hl : p_law_times.length = vs.length) (h : wSs P02 c n b_law_times (frOf p_law_times vs) σ (kFn Q)) : CallV c (n + 1) (.ref 371) σ vs Q := L.fn 12 (x := (371, p_law_times, b_law_times)) rfl hl h
theorem L2.f_law_told_right (hl : p_law_told_right.length = vs.length) (h : wSs P02 c n b_law_told_right (frOf p_law_told_right vs) σ (kFn Q)) : CallV c (n + 1) (.ref 376) σ vs Q := L.fn 13 (x := (376, p_law_told_right, b_law_told_right)) rfl hl h
theorem L2.f_law_part_right (hl : p_law_part_right.length = vs.length) (h : wSs P02 c n b_law_part_right (frOf p_law_part_right vs) σ (kFn Q)) : CallV c (n + 1) (.ref 381) σ vs Q := L.fn 14 (x := (381, p_law_part_right, b_law_part_right)) rfl hl h
theorem L2.f_law (hl : p_law.length = vs.length) (h : wSs P02 c n b_law (frOf p_law vs) σ (kFn Q)) : CallV c (n + 1) (.ref 386) σ vs Q := L.fn 15 (x := (386, p_law, b_law)) rfl hl h
theorem L2.f_Row_init (hl : p_Row_init.length = vs.length) (h : wSs P02 c n b_Row_init (frOf p_Row_init vs) σ (kFn Q)) : CallV c (n + 1) (.ref 33) σ vs Q := L.fn 16 (x := (33, p_Row_init, b_Row_init)) rfl hl h
theorem L2.f_Row_turned (hl : p_Row_turned.length = vs.length) (h : wSs P02 c n b_Row_turned (frOf p_Row_turned vs) σ (kFn Q)) : CallV c (n + 1) (.ref 38) σ vs Q := L.fn 17 (x := (38, p_Row_turned, b_Row_turned)) rfl hl h
theorem L2.f_Row_last (hl : p_Row_last.length = vs.length) (h : wSs P02 c n b_Row_last (frOf p_Row_last vs) σ (kFn Q)) : CallV c (n + 1) (.ref 71) σ vs Q := L.fn 18 (x := (71, p_Row_last, b_Row_last)) rfl hl h
theorem L2.f_Row_part (hl : p_Row_part.length = vs.length) (h : wSs P02 c n b_Row_part (frOf p_Row_part vs) σ (kFn Q)) : CallV c (n + 1) (.ref 78) σ vs Q := L.fn 19 (x := (78, p_Row_part, b_Row_part)) rfl hl h
theorem L2.f_Store_init (hl : p_Store_init.length = vs.length) (h : wSs P02 c n b_Store_init (frOf p_Store_init vs) σ (kFn Q)) : CallV c (n + 1) (.ref 217) σ vs Q := L.fn 20 (x := (217, p_Store_init, b_Store_init)) rfl hl h
theorem L2.f_Store_new_var (hl : p_Store_new_var.length = vs.length) (h : wSs P02 c n b_Store_new_var (frOf p_Store_new_var vs) σ (kFn Q)) : CallV c (n + 1) (.ref 224) σ vs Q := L.fn 21 (x := (224, p_Store_new_var, b_Store_new_var)) rfl hl h
theorem L2.f_Store_dom (hl : p_Store_dom.length = vs.length) (h : wSs P02 c n b_Store_dom (frOf p_Store_dom vs) σ (kFn Q)) : CallV c (n + 1) (.ref 238) σ vs Q := L.fn 22 (x := (238, p_Store_dom, b_Store_dom)) rfl hl h
theorem L2.f_Store_low (hl : p_Store_low.length = vs.length) (h : wSs P02 c n b_Store_low (frOf p_Store_low vs) σ (kFn Q)) : CallV c (n + 1) (.ref 252) σ vs Q := L.fn 23 (x := (252, p_Store_low, b_Store_low)) rfl hl h
theorem L2.f_Store_high (hl : p_Store_high.length = vs.length) (h : wSs P02 c n b_Store_high (frOf p_Store_high vs) σ (kFn Q)) : CallV c (n + 1) (.ref 259) σ vs Q := L.fn 24 (x := (259, p_Store_high, b_Store_high)) rfl hl h
theorem L2.f_Store_is_fixed (hl : p_Store_is_fixed.length = vs.length) (h : wSs P02 c n b_Store_is_fixed (frOf p_Store_is_fixed vs) σ (kFn Q)) : CallV c (n + 1) (.ref 273) σ vs Q := L.fn 25 (x := (273, p_Store_is_fixed, b_Store_is_fixed)) rfl hl h
theorem L2.f_Store_value (hl : p_Store_value.length = vs.length) (h : wSs P02 c n b_Store_value (frOf p_Store_value vs) σ (kFn Q)) : CallV c (n + 1) (.ref 280) σ vs Q := L.fn 26 (x := (280, p_Store_value, b_Store_value)) rfl hl h
theorem L2.f_Store_enter (hl : p_Store_enter.length = vs.length) (h : wSs P02 c n b_Store_enter (frOf p_Store_enter vs) σ (kFn Q)) : CallV c (n + 1) (.ref 301) σ vs Q := L.fn 27 (x := (301, p_Store_enter, b_Store_enter)) rfl hl h
theorem L2.f_Store_strike (hl : p_Store_strike.length = vs.length) (h : wSs P02 c n b_Store_strike (frOf p_Store_strike vs) σ (kFn Q)) : CallV c (n + 1) (.ref 308) σ vs Q := L.fn 28 (x := (308, p_Store_strike, b_Store_strike)) rfl hl h
theorem L2.f_Store_decide (hl : p_Store_decide.length = vs.length) (h : wSs P02 c n b_Store_decide (frOf p_Store_decide vs) σ (kFn Q)) : CallV c (n + 1) (.ref 315) σ vs Q := L.fn 29 (x := (315, p_Store_decide, b_Store_decide)) rfl hl h
theorem L2.f_Store_fail (hl : p_Store_fail.length = vs.length) (h : wSs P02 c n b_Store_fail (frOf p_Store_fail vs) σ (kFn Q)) : CallV c (n + 1) (.ref 322) σ vs Q := L.fn 30 (x := (322, p_Store_fail, b_Store_fail)) rfl hl h
theorem L2.f_Store_push (hl : p_Store_push.length = vs.length) (h : wSs P02 c n b_Store_push (frOf p_Store_push vs) σ (kFn Q)) : CallV c (n + 1) (.ref 329) σ vs Q := L.fn 31 (x := (329, p_Store_push, b_Store_push)) rfl hl h
theorem L2.f_Store_pop (hl : p_Store_pop.length = vs.length) (h : wSs P02 c n b_Store_pop (frOf p_Store_pop vs) σ (kFn Q)) : CallV c (n + 1) (.ref 336) σ vs Q := L.fn 32 (x := (336, p_Store_pop, b_Store_pop)) rfl hl h
theorem L2.c_Row (h : ∀ d, σ d = none → CallV c n (.ref 33) (upd σ d (.ns [])) (.obj "Row" d :: vs) fun v σ' => v = .none ∧ Q (.obj "Row" d) σ') : CallV c (n + 1) (.ref 100) σ vs Q := L.cl 0 (x := ("Row", 100, 33)) rfl h
theorem L2.c_Store (h : ∀ d, σ d = none → CallV c n (.ref 217) (upd σ d (.ns [])) (.obj "Store" d :: vs) fun v σ' => v = .none ∧ Q (.obj "Store" d) σ') : CallV c (n + 1) (.ref 353) σ vs Q := L.cl 1 (x := ("Store", 353, 217)) rfl h
end
end PyW
open PyW
local macro_rules | `(tactic| simp?! [$as,*]) => do let ids := (("q_none q_bool q_int q_str q_var q_bin q_cmp q_cx q_and q_or q_not q_neg q_ite q_tup q_lst q_dict0 q_idx q_upto q_attr q_bi q_me q_call q_mcall q_comp q_frz q_nil q_cons q_and1 q_and2 b_not b_and b_or b_cmp b_cx b_var b_attr b_call b_mcall a_nil a_cons i_over i_zip t_tl t_attr t_sub s_assign s_expr s_ret s_ret0 s_cond s_while s_for s_pass s_brk s_nil s_cons k_next k_brk k_ret k_fnr k_fnn k_neg k_up2 k_mc1 k_z2 ov_some ovr_some kBd kV kB kNotT kNot kNB kTr kBin2 kCmp2 kCx2 kTup kLst kIdx2 kUp3 kBi kMe2 kCe kFrz kEs2 kOver kFr kNx kEx kRet kSet kBin1 kCmp1 kCx1 kAndT kAnd kIte kIdx1 kUp1 kAttr kMe1 kCall kMc2 kCi kCs stepC kComp kEs1 kAll kZ1 kTA kTS2 kTS1 kAsg kIf bodyS kFor kWh updsL_cons updsL_nil capt_app bind_name bind_names lk_eq lk_ne setL_nil setL_cons e_add e_sub e_mul e_fdiv e_mod e_addt e_addl e_lt e_le e_gt e_ge e_eq e_ne e_eqi e_eqb e_eqs e_eqt e_eql e_eqn e_eqc e_eqnc e_eqcn p_none p_bool p_int p_str p_tup p_list p_nil p_cons e_is e_isNot e_eqv e_nev e_tb e_tn o_idxt o_idxl at_0 at_1 at_2 at_last e_lent e_lenl e_sum e_min e_max e_srt e_tupt e_tupl e_lstl e_lstt e_rng1 e_rng2 e_QLf e_QLt i_list i_tup rl_list al_list frOf upd_app isNone String.reduceEq String.reduceBEq Option.some.injEq exists_eq_left' exists_eq_left true_and and_true and_self List.length_cons List.length_nil decide_eq_true_eq List.mem_cons List.not_mem_nil or_false false_or or_true true_or forall_eq Bool.not_true Bool.not_false reduceCtorEq if_true Bool.false_eq_true implies_true Option.isSome_some Nat.reduceAdd V.tup.injEq List.cons.injEq forall_eq_or_imp V.list.injEq V.int.injEq V.bool.injEq decide_true decide_false false_imp_iff forall_const List.nil_append List.cons_append Option.getD_some Option.getD_none Bool.true_and Bool.and_true".splitOn " ").map fun s => Lean.mkIdent s.toName).toArray; `(tactic| simp only [$as,*, ↓reduceIte, $[$ids:term],*])
local macro_rules | `(tactic| simp? [$as,*]) => do let ids := (("q_none q_bool q_int q_str q_var q_bin q_cmp q_cx q_and q_or q_not q_neg q_ite q_tup q_lst q_dict0 q_idx q_upto q_attr q_bi q_me q_call q_mcall q_comp q_frz q_nil q_cons q_and1 q_and2 b_not b_and b_or b_cmp b_cx b_var b_attr b_call b_mcall a_nil a_cons i_over i_zip t_tl t_attr t_sub s_assign s_expr s_ret s_ret0 s_cond s_while s_for s_pass s_brk s_nil s_cons k_next k_brk k_ret k_fnr k_fnn k_neg k_up2 k_mc1 k_z2 ov_some ovr_some kBd kV kB kNotT kNot kNB kTr kBin2 kCmp2 kCx2 kTup kLst kIdx2 kUp3 kBi kMe2 kCe kFrz kEs2 kOver kFr kNx kEx kRet kSet kBin1 kCmp1 kCx1 kAndT kAnd kIte kIdx1 kUp1 kAttr kMe1 kCall kMc2 kCi kCs stepC kComp kEs1 kAll kZ1 kTA kTS2 kTS1 kAsg kIf bodyS kFor kWh updsL_cons updsL_nil capt_app bind_name bind_names lk_eq lk_ne setL_nil setL_cons e_add e_sub e_mul e_fdiv e_mod e_addt e_addl e_lt e_le e_gt e_ge e_eq e_ne e_eqi e_eqb e_eqs e_eqt e_eql e_eqn e_eqc e_eqnc e_eqcn p_none p_bool p_int p_str p_tup p_list p_nil p_cons e_is e_isNot e_eqv e_nev e_tb e_tn o_idxt o_idxl at_0 at_1 at_2 at_last e_lent e_lenl e_sum e_min e_max e_srt e_tupt e_tupl e_lstl e_lstt e_rng1 e_rng2 e_QLf e_QLt i_list i_tup rl_list al_list frOf updS isNone String.reduceEq String.reduceBEq Option.some.injEq exists_eq_left' exists_eq_left true_and and_true and_self List.length_cons List.length_nil decide_eq_true_eq List.mem_cons List.not_mem_nil or_false false_or or_true true_or forall_eq Bool.not_true Bool.not_false reduceCtorEq if_true Bool.false_eq_true implies_true Option.isSome_some Nat.reduceAdd V.tup.injEq List.cons.injEq forall_eq_or_imp V.list.injEq V.int.injEq V.bool.injEq decide_true decide_false false_imp_iff forall_const List.nil_append List.cons_append Option.getD_some Option.getD_none Bool.true_and Bool.and_true".splitOn " ").map fun s => Lean.mkIdent s.toName).toArray; `(tactic| simp only [$as,*, ↓reduceIte, $[$ids:term],*])
namespace PyW
noncomputable def iv (p : Int × Int) : V := .tup [.int p.1, .int p.2]
noncomputable def dV (d : List (Int × Int)) : V := .tup (d.map iv)
noncomputable def upTo (d : List (Int × Int)) (k : Int) : List (Int × Int) := d.filterMap fun p => if p.1 ≤ k then some (p.1, if k < p.2 then k else p.2) else none
noncomputable def fromOn (d : List (Int × Int)) (k : Int) : List (Int × Int) := d.filterMap fun p => if p.2 ≥ k then some (if k > p.1 then k else p.1, p.2) else none
theorem iv_plain (n : Nat) (p : Int × Int) : plain (n + 1) (iv p) := by simp [iv, plain, plains]
theorem iv_eq (p q : Int × Int) : pyEq (iv p) (iv q) = decide (p = q) := by
  obtain ⟨a, b⟩ := p
  obtain ⟨a', b'⟩ := q
  simp only [iv, e_eqt, e_eqc, e_eqn, e_eqi, Bool.and_true, Prod.mk.injEq]
  by_cases h1 : a = a' <;> by_cases h2 : b = b' <;> simp [h1, h2]
theorem dV_plain (n : Nat) (d : List (Int × Int)) : plain (n + 2) (dV d) := by rw [dV, p_tup]; exact p_map (iv_plain n) d
theorem dV_eq (d e : List (Int × Int)) : pyEq (dV d) (dV e) = decide (d = e) := by rw [dV, dV, e_eqt, e_eqm iv_eq]
noncomputable def rngI (a b : Int) : List Int := (List.range (b - a).toNat).map fun (i : Nat) => a + (i : Int)
theorem rngV_I (a b : Int) : rngV a b = (rngI a b).map .int := by unfold rngV rngI; rw [List.map_map]; rfl
noncomputable def meetK (d : List (Int × Int)) (k : Int) : List (Int × Int) := match d.find? fun p => decide (k ≤ p.2) with
  | some p => if p.1 ≤ k then [(k, k)] else []
  | none => []
theorem find_drop {d : List (Int × Int)} {k : Int} {i : Nat} (hi : i < d.length) (h : ∀ q ∈ d.take i, q.2 < k) (hk : k ≤ d[i].2) : d.find? (fun p => decide (k ≤ p.2)) = some d[i] := by
  have e : d = d.take i ++ d[i] :: d.drop (i + 1) := by rw [← List.drop_eq_getElem_cons hi, List.take_append_drop]
  generalize hx : d[i] = x at *
  rw [e, List.find?_append]
  have : (d.take i).find? (fun p => decide (k ≤ p.2)) = none := by
    rw [List.find?_eq_none]; intro q hq; have := h q hq; simp; omega
  rw [this]; simp [hk]
section
variable {c : Cx} (L : L2 c) {n : Nat} {σ : Sg} {Q : V → Sg → Prop}
include L
theorem up_to_spec {d : List (Int × Int)} {k : Int} (h : Q (dV (upTo d k)) σ) : CallV c (n + 1) (.ref 163) σ [dV d, .int k] Q := by
  refine L.f_up_to rfl ?_
  simp?! [b_up_to, p_up_to, dV]
  refine loopC_pure iv (fun p => (if p.1 ≤ k then some (p.1, if k < p.2 then k else p.2) else none).map iv) σ d [] (fun p hp K' h => ?_) ?_
  · simp?! [iv]
    by_cases hk : p.1 ≤ k
    · simp?! [hk]
      exact ⟨size4 (by decide), by simpa [hk, iv] using h⟩
    · simp?! [hk]
      simpa [hk] using h
  · simp?! [kV]
    have e : d.filterMap (fun p => (if p.1 ≤ k then some (p.1, if k < p.2 then k else p.2) else none).map iv) = (upTo d k).map iv := by rw [upTo, List.map_filterMap]
    rw [e]; exact h
theorem from_on_spec {d : List (Int × Int)} {k : Int} (h : Q (dV (fromOn d k)) σ) : CallV c (n + 1) (.ref 168) σ [dV d, .int k] Q := by
  refine L.f_from_on rfl ?_
  simp?! [b_from_on, p_from_on, dV]
  refine loopC_pure iv (fun p => (if p.2 ≥ k then some (if k > p.1 then k else p.1, p.2) else none).map iv) σ d [] (fun p hp K' h => ?_) ?_
  · simp?! [iv]
    by_cases hk : p.2 ≥ k
    · simp?! [hk]
      exact ⟨size4 (by decide), by simpa [hk, iv] using h⟩
    · simp?! [hk]
      simpa [hk] using h
  · simp?! [kV]
    have e : d.filterMap (fun p => (if p.2 ≥ k then some (if k > p.1 then k else p.1, p.2) else none).map iv) = (fromOn d k).map iv := by rw [fromOn, List.map_filterMap]
    rw [e]; exact h
noncomputable def withoutD (d : List (Int × Int)) (v : Int) : List (Int × Int) := upTo d (v - 1) ++ fromOn d (v + 1)
theorem without_spec {d : List (Int × Int)} {v : Int} (hz : 2 * d.length ≤ 1000) (h : Q (dV (withoutD d v)) σ) : CallV c (n + 2) (.ref 175) σ [dV d, .int v] Q := by
  refine L.f_without rfl ?_
  simp?! [b_without, p_without]
  refine ⟨_, L.n_up_to, up_to_spec L ?_⟩
  simp?! [kV]
  refine ⟨_, L.n_from_on, from_on_spec L ?_⟩
  simp?! [kV]
  have l1 : (upTo d (v - 1)).length ≤ d.length := by unfold upTo; exact List.length_filterMap_le _ _
  have l2 : (fromOn d (v + 1)).length ≤ d.length := by unfold fromOn; exact List.length_filterMap_le _ _
  simp only [dV, e_addt, List.length_map]
  refine ⟨size4 (by omega), ?_⟩
  rw [← List.map_append]; exact h
theorem meet_spec {d : List (Int × Int)} {k : Int} (hz : d.length ≤ 1000) (h : Q (dV (meetK d k)) σ) : CallV c (n + 1) (.ref 182) σ [dV d, dV [(k, k)]] Q := by
  refine L.f_meet rfl ?_
  simp?! [b_meet, p_meet]
  refine ⟨size4 (by decide), fun a ha => ?_⟩
  refine ⟨size4 (by decide), whl_of (fun m fr σ' => fr "d" = some (dV d) ∧ fr "e" = some (dV [(k, k)]) ∧ fr "found" = some (.ref a) ∧ ∃ i : Nat, i ≤ d.length ∧ fr "i" = some (.int i) ∧
    ((fr "j" = some (.int 0) ∧ (∀ q ∈ d.take i, q.2 < k) ∧ σ' = upd σ a (.list []) ∧ m = d.length - i + 1) ∨ (fr "j" = some (.int 1) ∧ σ' = upd σ a (.list ((meetK d k).map iv)) ∧ m = 0))) (d.length + 1) ?_ ?_⟩
  · simp?! [kV]
    exact ⟨0, by simp, by simp, .inl (by simp)⟩
  · rintro m fr σ' K ⟨f1, f2, f3, i, hi, f4, f5⟩ kn kb kr
    rcases f5 with ⟨f5, f6, rfl, rfl⟩ | ⟨f5, rfl, rfl⟩
    · simp?! [f1, f2, f3, f4, f5, dV, List.length_map, List.map_cons, List.map_nil]
      by_cases hlt : i < d.length
      · have hlt' : (i : Int) < (d.length : Int) := by omega
        have hd : atIdx (d.map iv) (i : Int) = some (iv d[i]) := by rw [at_nat]; simp [hlt]
        simp?! [f1, f2, f3, f4, f5, dV, List.length_map, List.map_cons, List.map_nil, hlt', hd, iv, show ((0 : Int) < ((0 + 1 : Nat) : Int)) = True from by simp, show ((0 : Int) < ((1 : Nat) : Int)) = True from by simp]
        have take1 : ∀ q ∈ d.take (i + 1), d[i].2 < k → q.2 < k := fun q hq hlt2 => by
          rw [List.take_add_one, List.mem_append] at hq
          rcases hq with hq | hq
          · exact f6 q hq
          · rw [List.getElem?_eq_getElem hlt] at hq
            simp at hq; subst hq; exact hlt2
        refine ⟨size4 (by decide), ?_⟩
        by_cases h2 : d[i].2 < k
        · have e1 : ¬ ((if k > d[i].1 then k else d[i].1) ≤ if k < d[i].2 then k else d[i].2) := by
            split <;> split <;> omega
          rw [if_neg e1, if_pos h2]
          refine kn (d.length - (i + 1) + 1) _ _ (by omega) ?_
          simp?! [f1, f2, f3, f5]
          exact ⟨i + 1, by omega, by simp, .inl ⟨fun q hq => take1 q hq h2, rfl⟩⟩
        · have hf := find_drop hlt f6 (by omega)
          by_cases h1 : d[i].1 ≤ k
          · have e1 : ((if k > d[i].1 then k else d[i].1) ≤ if k < d[i].2 then k else d[i].2) := by
              split <;> split <;> omega
            have e2 : (if k > d[i].1 then k else d[i].1) = k := by split <;> omega
            have e3 : (if k < d[i].2 then k else d[i].2) = k := by split <;> omega
            have mk : meetK d k = [(k, k)] := by unfold meetK; rw [hf]; simp [h1]
            rw [if_pos e1, e2, e3]
            have hu := upd_same σ a (O.list [])
            rw [e_sapp hu, e_app hu]
            refine ⟨trivial, size4 (by decide), size5 (by decide), ?_⟩
            simp?! [f1, f2, f3, f4, f5, dV, List.length_map, List.map_cons, List.map_nil, hlt', hd, iv, h2]
            refine kn 0 _ _ (by omega) ?_
            simp?! [f1, f2, f3, f4]
            exact ⟨i, hi, rfl, .inr (by rw [upd_upd, mk]; exact ⟨rfl, rfl⟩)⟩
          · have e1 : ¬ ((if k > d[i].1 then k else d[i].1) ≤ if k < d[i].2 then k else d[i].2) := by
              split <;> split <;> omega
            have mk : meetK d k = [] := by unfold meetK; rw [hf]; simp [h1]
            rw [if_neg e1, if_neg h2]
            refine kn 0 _ _ (by omega) ?_
            simp?! [f1, f2, f3, f4]
            exact ⟨i, hi, rfl, .inr (by rw [mk]; exact ⟨rfl, rfl⟩)⟩
      · have hlt' : ¬ (i : Int) < (d.length : Int) := by omega
        have hid : i = d.length := by omega
        have mk : meetK d k = [] := by
          unfold meetK
          have : d.find? (fun p => decide (k ≤ p.2)) = none := by
            rw [List.find?_eq_none]; intro q hq
            have := f6 q (by rw [hid, List.take_length]; exact hq)
            simp; omega
          rw [this]
        have hu := upd_same σ a (O.list [])
        simp?! [hlt', f3, e_frz hu, del_upd ha]
        rw [mk] at h; exact h
    · simp?! [f1, f2, f3, f4, f5, dV, List.length_map, List.map_cons, List.map_nil, show ¬ ((1 : Int) < ((0 + 1 : Nat) : Int)) from by omega, show ¬ ((1 : Int) < ((1 : Nat) : Int)) from by omega]
      have hu := upd_same σ a (O.list ((meetK d k).map iv))
      by_cases hlt : (i : Int) < (d.length : Int)
      · simp?! [hlt, e_frz hu, del_upd ha]; exact h
      · simp?! [hlt, e_frz hu, del_upd ha]; exact h
noncomputable def struckD (s : String) (k : Int) (d : List (Int × Int)) : List (Int × Int) := if s = "<=" then upTo d k else if s = ">=" then fromOn d k else if s = "=" then meetK d k else withoutD d k
theorem struck_spec {d : List (Int × Int)} {x : V} {s : String} {k : Int} (hz : 2 * d.length ≤ 1000) (h : Q (dV (struckD s k d)) σ) : CallV c (n + 3) (.ref 196) σ [.tup [x, .str s, .int k], dV d] Q := by
  refine L.f_struck rfl ?_
  simp?! [b_struck, p_struck]
  refine ⟨size4 (by decide), ?_⟩
  unfold struckD at h
  by_cases h1 : s = "<="
  · rw [if_pos h1] at h ⊢
    exact ⟨_, L.n_up_to, (up_to_spec (n := 0) L h).more (by omega)⟩
  · rw [if_neg h1] at h ⊢
    by_cases h2 : s = ">="
    · rw [if_pos h2] at h ⊢
      exact ⟨_, L.n_from_on, (from_on_spec (n := 0) L h).more (by omega)⟩
    · rw [if_neg h2] at h ⊢
      by_cases h3 : s = "="
      · rw [if_pos h3] at h ⊢
        refine ⟨_, L.n_meet, size4 (by decide), size4 (by decide), ?_⟩
        have := meet_spec (n := n + 1) L (σ := σ) (Q := Q) (d := d) (k := k) (by omega) h
        exact this
      · rw [if_neg h3] at h ⊢
        exact ⟨_, L.n_without, without_spec L hz h⟩
noncomputable def valsD (d : List (Int × Int)) : List Int := d.flatMap fun p => rngI p.1 (p.2 + 1)
theorem values_spec {d : List (Int × Int)} (hr : ∀ p ∈ d, okRange p.1 (p.2 + 1)) (hz : (valsD d).length ≤ 1000) (h : Q (.list ((valsD d).map .int)) σ) : CallV c (n + 1) (.ref 158) σ [dV d] Q := by
  refine L.f_values rfl ?_
  simp?! [b_values, p_values, dV]
  refine ⟨size4 (by decide), fun a ha => ?_⟩
  refine loopS_inv iv (fun done rest fr σ' => d = done ++ rest ∧ fr "found" = some (.ref a) ∧ σ' = upd σ a (.list ((valsD done).map .int))) ?_ ?_ d [] _ _ ?_
  · rintro done p rest fr σ' K ⟨hd, f1, rfl⟩ kn kr
    have hu := upd_same σ a (O.list ((valsD done).map V.int))
    have hp := hr p (by rw [hd]; simp)
    have hl : (valsD done).length + (p.2 + 1 - p.1).toNat < sizeLine := by
      have e : valsD d = valsD done ++ (rngI p.1 (p.2 + 1) ++ valsD rest) := by rw [hd]; simp [valsD]
      have e1 := congrArg List.length e
      have e2 : (rngI p.1 (p.2 + 1)).length = (p.2 + 1 - p.1).toNat := by simp [rngI]
      simp only [List.length_append, e2] at e1
      exact size5 (by omega)
    simp?! [iv, f1, e_sext hu, e_ext hu, List.length_map]
    refine ⟨⟨hp, hl⟩, kn _ _ ⟨by simp [hd], by simp?! [kV]; exact f1, ?_⟩⟩
    rw [upd_upd, rngV_I]
    simp [valsD]
  · rintro done fr σ' ⟨hd, f1, rfl⟩
    have hu := upd_same σ a (O.list ((valsD done).map V.int))
    simp?! [f1, e_frz hu, del_upd ha]
    rw [hd, List.append_nil] at h; exact h
  · simp?! [kV]
    simp [valsD]
noncomputable def putB (acc : List (Int × Int)) (v : Int) : List (Int × Int) := match acc.getLast? with
  | some p => if v ≤ p.2 + 1 then (if v > p.2 then acc.dropLast ++ [(p.1, v)] else acc) else acc ++ [(v, v)]
  | none => [(v, v)]
theorem put_behind_spec {a : Addr} {acc : List (Int × Int)} {v : Int} (ha : σ a = some (.list (acc.map iv))) (hz : acc.length ≤ 900) (h : Q .none (upd σ a (.list ((putB acc v).map iv)))) : CallV c (n + 1) (.ref 111) σ [.ref a, .int v, .int v] Q := by
  refine L.f_put_behind rfl ?_
  rcases List.eq_nil_or_concat acc with e | ⟨acc', p, e⟩
  · subst e
    have ha' : σ a = some (.list []) := ha
    simp?! [b_put_behind, p_put_behind, e_lenr ha', e_sapp ha', e_app ha', show ¬ (((0 : Nat) : Int) > 0) from by omega]
    exact ⟨size4 (by decide), size5 (by decide), h⟩
  · rw [List.concat_eq_append] at e
    subst e
    have ha' : σ a = some (.list (acc'.map iv ++ [iv p])) := by rw [ha]; simp
    have e1 : (((acc'.map iv ++ [iv p]).length : Nat) : Int) > 0 := by simp
    have pb : putB (acc' ++ [p]) v = if v ≤ p.2 + 1 then (if v > p.2 then acc' ++ [(p.1, v)] else acc' ++ [p]) else acc' ++ [p] ++ [(v, v)] := by
      unfold putB; simp
    simp only [List.length_append, List.length_singleton] at hz
    rw [pb] at h
    have il : atIdx (acc'.map iv ++ [iv p]) (-1) = some (.tup [.int p.1, .int p.2]) := at_last _ _
    by_cases h1 : v ≤ p.2 + 1
    · rw [if_pos h1] at h
      by_cases h2 : v > p.2
      · rw [if_pos h2] at h
        simp?! [b_put_behind, p_put_behind, e_lenr ha', e1, h1, h2, o_idxr ha', il, Int.reduceNeg]
        refine ⟨size4 (by decide), ?_⟩
        rw [o_setl ha']
        refine ⟨acc'.length, ?_, ?_⟩
        · unfold idxOf
          rw [if_neg (by omega), if_pos (by simp; omega)]
          simp; omega
        · have : (acc'.map iv ++ [iv p]).set acc'.length (.tup [.int p.1, .int v]) = (acc' ++ [(p.1, v)]).map iv := by
            rw [List.set_append_right _ _ (by simp)]
            simp [iv]
          rw [kSet, this]; exact h
      · rw [if_neg h2] at h
        simp?! [b_put_behind, p_put_behind, e_lenr ha', e1, h1, h2, o_idxr ha', il, Int.reduceNeg]
        have : upd σ a (.list ((acc' ++ [p]).map iv)) = σ := by
          funext x
          by_cases q : x = a
          · subst q; rw [upd_same, ha]
          · rw [upd_ne _ _ q]
        rw [this] at h; exact h
    · rw [if_neg h1] at h
      simp?! [b_put_behind, p_put_behind, e_lenr ha', e1, h1, o_idxr ha', il, e_sapp ha', e_app ha', Int.reduceNeg]
      refine ⟨size4 (by decide), size5 (by simp; omega), ?_⟩
      have : acc'.map iv ++ [iv p] ++ [.tup [.int v, .int v]] = (acc' ++ [p] ++ [(v, v)]).map iv := by simp [iv]
      rw [this]; exact h
omit L in
theorem putB_len (acc : List (Int × Int)) (v : Int) : (putB acc v).length ≤ acc.length + 1 := by
  rcases List.eq_nil_or_concat acc with e | ⟨acc', p, e⟩
  · subst e; simp [putB]
  · rw [List.concat_eq_append] at e
    subst e
    unfold putB
    simp only [List.getLast?_append, List.getLast?_singleton, List.dropLast_concat]
    simp only [Option.some_or]
    split
    · split <;> simp
    · simp
noncomputable def fromV (ns : List Int) : List (Int × Int) := (sortZ ns).foldl putB []
theorem from_values_spec {ns : List Int} (hz : ns.length < 64) (h : Q (dV (fromV ns)) σ) : CallV c (n + 2) (.ref 118) σ [.list (ns.map .int)] Q := by
  refine L.f_from_values rfl ?_
  simp?! [b_from_values, p_from_values]
  refine ⟨size4 (by decide), fun a ha => ⟨hz, ?_⟩⟩
  have lenS : (sortZ ns).length = ns.length := (sortZ_perm ns).length_eq
  refine loopS_inv V.int (fun done rest fr σ' => sortZ ns = done ++ rest ∧ fr "found" = some (.ref a) ∧ σ' = upd σ a (.list ((done.foldl putB []).map iv)) ∧ (done.foldl putB []).length ≤ done.length) ?_ ?_ (sortZ ns) [] _ _ ?_
  · rintro done v rest fr σ' K ⟨hd, f1, rfl, hl⟩ kn kr
    simp?! [f1]
    have := congrArg List.length hd
    simp only [List.length_append, List.length_cons] at this
    refine ⟨_, L.n_put_behind, put_behind_spec L (upd_same _ _ _) (by omega) (kn _ _ ⟨by simp [hd], by simp?! [kV]; exact f1, ?_, ?_⟩)⟩
    · rw [upd_upd, List.foldl_append]; rfl
    · rw [List.foldl_append]
      have := putB_len (done.foldl putB []) v
      simp only [List.foldl_cons, List.foldl_nil, List.length_append, List.length_singleton]
      omega
  · rintro done fr σ' ⟨hd, f1, rfl, hl⟩
    have hu := upd_same σ a (O.list ((done.foldl putB []).map iv))
    simp?! [f1, e_frz hu, del_upd ha]
    rw [List.append_nil] at hd
    rw [fromV, hd] at h; exact h
  · simp?! [kV]
    simp
end
end PyW
namespace PyW
/-! ### domains, plainly -/
noncomputable def Cn (lo : Int) : List (Int × Int) → Prop
  | [] => True
  | p :: r => lo < p.1 ∧ p.1 ≤ p.2 ∧ Cn (p.2 + 1) r
theorem Cn.mono {lo lo' : Int} (h : lo' ≤ lo) : ∀ {d : List (Int × Int)}, Cn lo d → Cn lo' d
  | [], _ => trivial
  | p :: r, c => ⟨by have := c.1; omega, c.2.1, c.2.2⟩
theorem Cn_append {e : List (Int × Int)} : ∀ {d : List (Int × Int)} {lo : Int}, Cn lo (d ++ e) ↔ Cn lo d ∧ Cn lo e ∧ ∀ q ∈ d, Cn (q.2 + 1) e
  | [], lo => by simp [Cn]
  | p :: d, lo => by
    simp only [List.cons_append, Cn, Cn_append (d := d), List.mem_cons, forall_eq_or_imp]
    constructor
    · rintro ⟨a, b, c, e, f⟩
      exact ⟨⟨a, b, c⟩, e.mono (by omega), e, f⟩
    · rintro ⟨⟨a, b, c⟩, _, e, f⟩
      exact ⟨a, b, c, e, f⟩
theorem mem_rngI {a b x : Int} : x ∈ rngI a b ↔ a ≤ x ∧ x < b := by
  simp only [rngI, List.mem_map, List.mem_range]
  constructor
  · rintro ⟨i, hi, rfl⟩; omega
  · rintro ⟨h1, h2⟩; exact ⟨(x - a).toNat, by omega, by omega⟩
theorem rngI_nil {a b : Int} (h : b ≤ a) : rngI a b = [] := by
  have : (b - a).toNat = 0 := by omega
  simp [rngI, this]
theorem rngI_cons {a b : Int} (h : a < b) : rngI a b = a :: rngI (a + 1) b := by
  have : (b - a).toNat = (b - (a + 1)).toNat + 1 := by omega
  unfold rngI
  rw [this, List.range_succ_eq_map]
  simp only [List.map_cons, List.map_map]
  congr 1
  · simp
  · apply List.map_congr_left; intro i _; simp; omega
theorem rngI_snoc {a b : Int} (h : a ≤ b) : rngI a (b + 1) = rngI a b ++ [b] := by
  have : (b + 1 - a).toNat = (b - a).toNat + 1 := by omega
  unfold rngI
  rw [this, List.range_succ, List.map_append]
  simp; omega
theorem rngI_pw (a b : Int) : (rngI a b).Pairwise (· < ·) := by
  unfold rngI
  rw [List.pairwise_map]
  exact List.pairwise_lt_range.imp (fun h => by omega)
theorem valsD_cons (p : Int × Int) (r : List (Int × Int)) : valsD (p :: r) = rngI p.1 (p.2 + 1) ++ valsD r := by simp [valsD]
theorem valsD_append (d e : List (Int × Int)) : valsD (d ++ e) = valsD d ++ valsD e := by simp [valsD]
theorem Cn.lt : ∀ {d : List (Int × Int)} {lo : Int}, Cn lo d → ∀ x ∈ valsD d, lo < x
  | p :: r, lo, c, x, hx => by
    rw [valsD_cons, List.mem_append] at hx
    rcases hx with hx | hx
    · have := mem_rngI.mp hx; have := c.1; omega
    · have := Cn.lt c.2.2 x hx; have := c.1; have := c.2.1; omega
  | [], _, _, x, hx => by simp [valsD] at hx
theorem Cn.pw : ∀ {d : List (Int × Int)} {lo : Int}, Cn lo d → (valsD d).Pairwise (· < ·)
  | [], _, _ => by simp [valsD]
  | p :: r, lo, c => by
    rw [valsD_cons, List.pairwise_append]
    refine ⟨rngI_pw _ _, c.2.2.pw, fun x hx y hy => ?_⟩
    have := mem_rngI.mp hx
    have := c.2.2.lt y hy
    omega
theorem Cn.ends : ∀ {d : List (Int × Int)} {lo : Int}, Cn lo d → ∀ p ∈ d, p.1 ≤ p.2 ∧ p.1 ∈ valsD d ∧ p.2 ∈ valsD d
  | q :: r, lo, c, p, hp => by
    rw [valsD_cons]
    rcases List.mem_cons.mp hp with rfl | hp
    · exact ⟨c.2.1, List.mem_append_left _ (mem_rngI.mpr ⟨Int.le_refl _, by have := c.2.1; omega⟩), List.mem_append_left _ (mem_rngI.mpr ⟨c.2.1, by omega⟩)⟩
    · obtain ⟨a, b, d⟩ := c.2.2.ends p hp
      exact ⟨a, List.mem_append_right _ b, List.mem_append_right _ d⟩
  | [], _, _, _, hp => (nomatch hp)
theorem Cn.len : ∀ {d : List (Int × Int)} {lo : Int}, Cn lo d → d.length ≤ (valsD d).length
  | [], _, _ => by simp
  | p :: r, lo, c => by
    rw [valsD_cons, rngI_cons (by have := c.2.1; omega)]
    have := c.2.2.len
    simp; omega
theorem filter_rng_le (k : Int) : ∀ (n : Nat) (a b : Int), (b - a).toNat = n → (rngI a b).filter (fun x => decide (x ≤ k)) = rngI a (if k + 1 < b then k + 1 else b)
  | 0, a, b, h => by
    rw [rngI_nil (by omega), rngI_nil (by split <;> omega)]; rfl
  | n + 1, a, b, h => by
    rw [rngI_cons (by omega), List.filter_cons, filter_rng_le k n (a + 1) b (by omega)]
    by_cases hk : a ≤ k
    · rw [if_pos (by simpa using hk), rngI_cons (a := a) (by split <;> omega)]
    · rw [if_neg (by simpa using hk), rngI_nil (by split <;> omega), rngI_nil (by split <;> omega)]
theorem filter_rng_ge (k : Int) : ∀ (n : Nat) (a b : Int), (b - a).toNat = n → (rngI a b).filter (fun x => decide (x ≥ k)) = rngI (if k > a then k else a) b
  | 0, a, b, h => by
    rw [rngI_nil (by omega), rngI_nil (by split <;> omega)]; rfl
  | n + 1, a, b, h => by
    rw [rngI_cons (by omega), List.filter_cons, filter_rng_ge k n (a + 1) b (by omega)]
    by_cases hk : a ≥ k
    · have e1 : (if k > a + 1 then k else a + 1) = a + 1 := by split <;> omega
      have e2 : (if k > a then k else a) = a := by split <;> omega
      rw [if_pos (by simpa using hk), e1, e2, ← rngI_cons (by omega)]
    · have e1 : (if k > a + 1 then k else a + 1) = k := by split <;> omega
      have e2 : (if k > a then k else a) = k := by split <;> omega
      rw [if_neg (by simpa using hk), e1, e2]
theorem upTo_cons (p : Int × Int) (r : List (Int × Int)) (k : Int) : upTo (p :: r) k = if p.1 ≤ k then (p.1, if k < p.2 then k else p.2) :: upTo r k else upTo r k := by
  unfold upTo
  rw [List.filterMap_cons]
  by_cases h : p.1 ≤ k <;> simp [h]
theorem fromOn_cons (p : Int × Int) (r : List (Int × Int)) (k : Int) : fromOn (p :: r) k = if p.2 ≥ k then (if k > p.1 then k else p.1, p.2) :: fromOn r k else fromOn r k := by
  unfold fromOn
  rw [List.filterMap_cons]
  by_cases h : p.2 ≥ k <;> simp [h]
theorem vals_upTo {k : Int} : ∀ {d : List (Int × Int)} {lo : Int}, Cn lo d → valsD (upTo d k) = (valsD d).filter (fun x => decide (x ≤ k)) ∧ Cn lo (upTo d k)
  | [], _, _ => ⟨rfl, trivial⟩
  | p :: r, lo, c => by
    obtain ⟨e1, e2⟩ := vals_upTo (k := k) c.2.2
    rw [upTo_cons, valsD_cons, List.filter_append, filter_rng_le k _ _ _ rfl, ← e1]
    by_cases h : p.1 ≤ k
    · rw [if_pos h, valsD_cons]
      refine ⟨?_, c.1, ?_, e2.mono ?_⟩
      · congr 2
        dsimp only
        split <;> split <;> omega
      · dsimp only; have := c.2.1; split <;> omega
      · dsimp only; split <;> omega
    · rw [if_neg h, rngI_nil (by split <;> omega)]
      exact ⟨rfl, e2.mono (by have := c.1; have := c.2.1; omega)⟩
theorem vals_fromOn {k : Int} : ∀ {d : List (Int × Int)} {lo : Int}, Cn lo d → valsD (fromOn d k) = (valsD d).filter (fun x => decide (x ≥ k)) ∧ Cn lo (fromOn d k) ∧ Cn (k - 1) (fromOn d k)
  | [], _, _ => ⟨rfl, trivial, trivial⟩
  | p :: r, lo, c => by
    obtain ⟨e1, e2, e3⟩ := vals_fromOn (k := k) c.2.2
    have := c.1; have := c.2.1
    rw [fromOn_cons, valsD_cons, List.filter_append, filter_rng_ge k _ _ _ rfl, ← e1]
    by_cases h : p.2 ≥ k
    · rw [if_pos h, valsD_cons]
      refine ⟨rfl, ⟨?_, ?_, e2⟩, ?_, ?_, e2⟩
      · dsimp only; split <;> omega
      · dsimp only; split <;> omega
      · dsimp only; split <;> omega
      · dsimp only; split <;> omega
    · rw [if_neg h, rngI_nil (by split <;> omega)]
      exact ⟨rfl, e2.mono (by omega), e3⟩
theorem filter_two {v : Int} : ∀ {l : List Int}, l.Pairwise (· < ·) → l.filter (fun x => decide (x ≤ v - 1)) ++ l.filter (fun x => decide (x ≥ v + 1)) = l.filter (fun x => decide (x ≠ v))
  | [], _ => rfl
  | x :: l, h => by
    rw [List.pairwise_cons] at h
    have ih := filter_two (v := v) h.2
    by_cases h1 : x < v
    · simp only [List.filter_cons]
      rw [if_pos (by simp; omega), if_neg (by simp; omega), if_pos (by simp; omega), List.cons_append, ih]
    · have e : (l.filter fun x => decide (x ≤ v - 1)) = [] := by
        rw [List.filter_eq_nil_iff]; intro y hy; have := h.1 y hy; simp; omega
      have e2 : ((x :: l).filter fun x => decide (x ≤ v - 1)) = [] := by
        rw [List.filter_cons, if_neg (by simp; omega), e]
      rw [e, List.nil_append] at ih
      rw [e2, List.nil_append]
      by_cases h2 : x = v
      · simp only [List.filter_cons]
        rw [if_neg (by simp; omega), if_neg (by simp [h2]), ih]
      · simp only [List.filter_cons]
        rw [if_pos (by simp; omega), if_pos (by simp [h2]), ih]
noncomputable def Can (d : List (Int × Int)) : Prop := ∃ lo, Cn lo d
theorem upTo_le {k : Int} : ∀ {d : List (Int × Int)}, ∀ p ∈ upTo d k, p.2 ≤ k
  | q :: r, p, hp => by
    rw [upTo_cons] at hp
    split at hp
    · rcases List.mem_cons.mp hp with rfl | hp
      · dsimp only; split <;> omega
      · exact upTo_le p hp
    · exact upTo_le p hp
  | [], _, hp => by simp [upTo] at hp
theorem vals_without {d : List (Int × Int)} {v : Int} (c : Can d) : valsD (withoutD d v) = (valsD d).filter (fun x => decide (x ≠ v)) ∧ Can (withoutD d v) := by
  obtain ⟨lo, c⟩ := c
  obtain ⟨a1, a2⟩ := vals_upTo (k := v - 1) c
  obtain ⟨b1, b2, b3⟩ := vals_fromOn (k := v + 1) c
  refine ⟨by rw [withoutD, valsD_append, a1, b1, filter_two c.pw], min lo v, ?_⟩
  rw [withoutD, Cn_append]
  refine ⟨a2.mono (by omega), b2.mono (by omega), fun q hq => b3.mono ?_⟩
  have := upTo_le q hq
  omega
theorem meetK_cons (p : Int × Int) (r : List (Int × Int)) (k : Int) : meetK (p :: r) k = if k ≤ p.2 then (if p.1 ≤ k then [(k, k)] else []) else meetK r k := by
  unfold meetK
  rw [List.find?_cons]
  by_cases h : k ≤ p.2 <;> simp [h]
theorem vals_one (k : Int) : valsD [(k, k)] = [k] := by
  rw [valsD_cons, rngI_cons (by omega), rngI_nil (by omega)]; rfl
theorem filter_none {l : List Int} {k : Int} (h : ∀ x ∈ l, x ≠ k) : l.filter (fun x => decide (x = k)) = [] := by
  rw [List.filter_eq_nil_iff]; intro x hx; simpa using h x hx
theorem filter_rng_eq {k : Int} {a b : Int} (h : a ≤ k) (h2 : k < b) : (rngI a b).filter (fun x => decide (x = k)) = [k] := by
  have e : (rngI a b).filter (fun x => decide (x = k)) = ((rngI a b).filter (fun x => decide (x ≤ k))).filter (fun x => decide (x ≥ k)) := by
    rw [List.filter_filter]; congr 1; funext x
    by_cases h : x = k
    · subst h; simp
    · have : ¬ (x ≥ k ∧ x ≤ k) := by omega
      simp [h]; omega
  rw [e, filter_rng_le k _ _ _ rfl, filter_rng_ge k _ _ _ rfl, rngI_cons (by split <;> split <;> omega), rngI_nil (by split <;> split <;> omega)]
  congr 1
  split <;> omega
theorem vals_meet {k : Int} : ∀ {d : List (Int × Int)} {lo : Int}, Cn lo d → valsD (meetK d k) = (valsD d).filter (fun x => decide (x = k)) ∧ Can (meetK d k)
  | [], _, _ => ⟨rfl, 0, trivial⟩
  | p :: r, lo, c => by
    have := c.1; have := c.2.1
    rw [meetK_cons, valsD_cons, List.filter_append]
    by_cases h : k ≤ p.2
    · rw [if_pos h]
      have er : (valsD r).filter (fun x => decide (x = k)) = [] := filter_none fun x hx => by have := c.2.2.lt x hx; omega
      rw [er, List.append_nil]
      by_cases h1 : p.1 ≤ k
      · rw [if_pos h1, filter_rng_eq h1 (by omega), vals_one]
        exact ⟨rfl, k - 1, by omega, by omega, trivial⟩
      · rw [if_neg h1, filter_none fun x hx => by have := mem_rngI.mp hx; omega]
        exact ⟨rfl, 0, trivial⟩
    · rw [if_neg h, filter_none fun x hx => by have := mem_rngI.mp hx; omega, List.nil_append]
      exact vals_meet c.2.2
/-- what a literal leaves -/
noncomputable def keepB (s : String) (k x : Int) : Bool := if s = "<=" then decide (x ≤ k) else if s = ">=" then decide (x ≥ k) else if s = "=" then decide (x = k) else decide (x ≠ k)
theorem vals_struck {s : String} {k : Int} {d : List (Int × Int)} (c : Can d) : valsD (struckD s k d) = (valsD d).filter (keepB s k) ∧ Can (struckD s k d) := by
  have c' := c
  obtain ⟨lo, c⟩ := c
  unfold struckD keepB
  by_cases h1 : s = "<="
  · simp only [if_pos h1]; exact ⟨(vals_upTo c).1, lo, (vals_upTo c).2⟩
  · simp only [if_neg h1]
    by_cases h2 : s = ">="
    · simp only [if_pos h2]; exact ⟨(vals_fromOn c).1, lo, (vals_fromOn c).2.1⟩
    · simp only [if_neg h2]
      by_cases h3 : s = "="
      · simp only [if_pos h3]; exact vals_meet c
      · simp only [if_neg h3]; exact vals_without c'
theorem putB_ok {acc : List (Int × Int)} {v lo : Int} (c : Cn lo acc) (hv : ∀ x ∈ valsD acc, x < v) (hlo : lo < v) : Cn lo (putB acc v) ∧ valsD (putB acc v) = valsD acc ++ [v] := by
  rcases List.eq_nil_or_concat acc with e | ⟨acc', p, e⟩
  · subst e; exact ⟨⟨hlo, Int.le_refl _, trivial⟩, by simp only [putB, List.getLast?_nil]; rw [vals_one]; rfl⟩
  · rw [List.concat_eq_append] at e
    subst e
    have pb : putB (acc' ++ [p]) v = if v ≤ p.2 + 1 then (if v > p.2 then acc' ++ [(p.1, v)] else acc' ++ [p]) else acc' ++ [p] ++ [(v, v)] := by
      unfold putB; simp
    have hp := c.ends p (by simp)
    have h1 := hv _ hp.2.2
    have c' := Cn_append.mp c
    rw [pb]
    by_cases h : v ≤ p.2 + 1
    · rw [if_pos h, if_pos (by omega)]
      have ev : v = p.2 + 1 := by omega
      refine ⟨Cn_append.mpr ⟨c'.1, ⟨c'.2.1.1, by dsimp only; omega, trivial⟩, fun q hq => ⟨(c'.2.2 q hq).1, by dsimp only; omega, trivial⟩⟩, ?_⟩
      rw [valsD_append, valsD_append, List.append_assoc, valsD_cons, valsD_cons]
      dsimp only
      rw [ev, rngI_snoc (by omega)]
      simp [valsD]
    · rw [if_neg h]
      refine ⟨Cn_append.mpr ⟨c, ⟨hlo, Int.le_refl _, trivial⟩, fun q hq => ⟨?_, Int.le_refl _, trivial⟩⟩, ?_⟩
      · dsimp only
        rcases List.mem_append.mp hq with hq | hq
        · have := (c'.2.2 q hq).1; omega
        · rw [List.mem_singleton.mp hq]; omega
      · rw [valsD_append, vals_one]
theorem insZ_lt {n : Int} : ∀ {l : List Int}, (∀ x ∈ l, n < x) → insZ n l = n :: l
  | [], _ => rfl
  | m :: l, h => by
    unfold insZ
    rw [if_pos (by have := h m (.head _); omega)]
theorem sortZ_pw_id : ∀ {l : List Int}, l.Pairwise (· < ·) → sortZ l = l
  | [], _ => rfl
  | n :: l, h => by
    rw [List.pairwise_cons] at h
    unfold sortZ
    rw [sortZ_pw_id h.2, insZ_lt h.1]
theorem fromV_ok {ns : List Int} (h : ns.Pairwise (· < ·)) : valsD (fromV ns) = ns ∧ Can (fromV ns) := by
  have go : ∀ (l : List Int) (acc : List (Int × Int)) (lo : Int), Cn lo acc → l.Pairwise (· < ·) → (∀ x ∈ valsD acc, ∀ y ∈ l, x < y) → (∀ y ∈ l, lo < y) → Cn lo (l.foldl putB acc) ∧ valsD (l.foldl putB acc) = valsD acc ++ l := by
    intro l
    induction l with
    | nil => intro acc lo c _ _ _; exact ⟨c, by simp⟩
    | cons v l ih =>
      intro acc lo c hp hx hl
      rw [List.pairwise_cons] at hp
      obtain ⟨a, b⟩ := putB_ok c (fun x h => hx x h v (.head _)) (hl v (.head _))
      obtain ⟨a', b'⟩ := ih (putB acc v) lo a hp.2 (fun x h y hy => by
        rw [b, List.mem_append] at h
        rcases h with h | h
        · exact hx x h y (.tail _ hy)
        · rw [List.mem_singleton.mp h]; exact hp.1 y hy) (fun y hy => hl y (.tail _ hy))
      exact ⟨a', by rw [List.foldl_cons, b', b]; simp⟩
  unfold fromV
  rw [sortZ_pw_id h]
  cases ns with
  | nil => exact ⟨rfl, 0, trivial⟩
  | cons n ns =>
    have h' := h
    rw [List.pairwise_cons] at h
    obtain ⟨a, b⟩ := go (n :: ns) [] (n - 1) trivial h' (fun x hx => by simp [valsD] at hx) (fun y hy => by
      rcases List.mem_cons.mp hy with rfl | hy
      · omega
      · have := h.1 y hy; omega)
    exact ⟨by simpa [valsD] using b, _, a⟩
/-- a domain of one value -/
theorem Can.fixed {d : List (Int × Int)} (c : Can d) : (∃ v, d = [(v, v)]) ↔ (valsD d).length = 1 := by
  constructor
  · rintro ⟨v, rfl⟩; rw [vals_one]; rfl
  · intro h
    obtain ⟨lo, c⟩ := c
    have hl := c.len
    match d, c, h, hl with
    | [p], c, h, _ =>
      rw [valsD_cons] at h
      have : valsD [] = [] := rfl
      rw [this, List.append_nil, rngI_cons (by have := c.2.1; omega)] at h
      have e : rngI (p.1 + 1) (p.2 + 1) = [] := by simpa using h
      by_cases q : p.1 < p.2
      · rw [rngI_cons (by omega)] at e; cases e
      · have e2 : p.2 = p.1 := by have := c.2.1; omega
        refine ⟨p.1, ?_⟩
        obtain ⟨p1, p2⟩ := p
        dsimp only at e2 ⊢
        rw [e2]
    | [], _, h, _ => simp [valsD] at h
    | _ :: _ :: _, _, h, hl => rw [h] at hl; simp at hl
end PyW
namespace PyW
/-! ### the store -/
theorem fl_1 : P02.fld "Store" "domains" = true := by decide
theorem fl_2 : P02.fld "Store" "firsts" = true := by decide
theorem fl_3 : P02.fld "Store" "trail" = true := by decide
theorem fl_4 : P02.fld "Store" "marks" = true := by decide
theorem fl_5 : P02.fld "Store" "news" = true := by decide
theorem fl_6 : P02.fld "Store" "speaker" = true := by decide
theorem fl_7 : P02.fld "Store" "is_failed" = true := by decide
theorem fl_8 : P02.fld "Store" "clash" = true := by decide
theorem fl_a : P02.fld "Row" "kind" = true := by decide
theorem fl_b : P02.fld "Row" "parts" = true := by decide
theorem fl_c : P02.fld "Row" "c" = true := by decide
structure SA where
  d : Addr
  a1 : Addr
  a2 : Addr
  a3 : Addr
  a4 : Addr
  a5 : Addr
noncomputable def SA.l (A : SA) : List Addr := [A.d, A.a1, A.a2, A.a3, A.a4, A.a5]
structure SA.Ne (A : SA) : Prop where
  h01 : A.d ≠ A.a1
  h02 : A.d ≠ A.a2
  h03 : A.d ≠ A.a3
  h04 : A.d ≠ A.a4
  h05 : A.d ≠ A.a5
  h10 : A.a1 ≠ A.d
  h12 : A.a1 ≠ A.a2
  h13 : A.a1 ≠ A.a3
  h14 : A.a1 ≠ A.a4
  h15 : A.a1 ≠ A.a5
  h20 : A.a2 ≠ A.d
  h21 : A.a2 ≠ A.a1
  h23 : A.a2 ≠ A.a3
  h24 : A.a2 ≠ A.a4
  h25 : A.a2 ≠ A.a5
  h30 : A.a3 ≠ A.d
  h31 : A.a3 ≠ A.a1
  h32 : A.a3 ≠ A.a2
  h34 : A.a3 ≠ A.a4
  h35 : A.a3 ≠ A.a5
  h40 : A.a4 ≠ A.d
  h41 : A.a4 ≠ A.a1
  h42 : A.a4 ≠ A.a2
  h43 : A.a4 ≠ A.a3
  h45 : A.a4 ≠ A.a5
  h50 : A.a5 ≠ A.d
  h51 : A.a5 ≠ A.a1
  h52 : A.a5 ≠ A.a2
  h53 : A.a5 ≠ A.a3
  h54 : A.a5 ≠ A.a4
theorem SA.ne {A : SA} (h : A.l.Nodup) : A.Ne := by
  simp only [SA.l, List.nodup_cons, List.mem_cons, List.not_mem_nil, or_false, not_or] at h
  obtain ⟨⟨q1, q2, q3, q4, q5⟩, ⟨q6, q7, q8, q9⟩, ⟨q10, q11, q12⟩, ⟨q13, q14⟩, q15, _⟩ := h
  exact ⟨q1, q2, q3, q4, q5, Ne.symm q1, q6, q7, q8, q9, Ne.symm q2, Ne.symm q6, q10, q11, q12, Ne.symm q3, Ne.symm q7, Ne.symm q10, q13, q14, Ne.symm q4, Ne.symm q8, Ne.symm q11, Ne.symm q13, q15, Ne.symm q5, Ne.symm q9, Ne.symm q12, Ne.symm q14, Ne.symm q15⟩
/-- an entry of the trail -/
structure TE where
  x : Nat
  old : List (Int × Int)
  lit : V
  rea : V
noncomputable def tV (e : TE) : V := .tup [.int e.x, dV e.old, e.lit, e.rea, .int (-1)]
structure SS where
  D : List (List (Int × Int))
  F : List (List (Int × Int))
  T : List TE
  M : List Nat
  f : Bool
  cl : V
noncomputable def nsOf (A : SA) (s : SS) : List (String × V) := [("domains", .ref A.a1), ("firsts", .ref A.a2), ("trail", .ref A.a3), ("marks", .ref A.a4), ("news", .ref A.a5), ("speaker", .int (-1)), ("is_failed", .bool s.f), ("clash", s.cl)]
noncomputable def natV (i : Nat) : V := .int i
structure SIs (σ : Sg) (A : SA) (s : SS) (k : Nat) : Prop where
  ns : σ A.d = some (.ns (nsOf A s))
  o1 : σ A.a1 = some (.list (s.D.map dV))
  o2 : σ A.a2 = some (.list (s.F.map dV))
  o3 : σ A.a3 = some (.list (s.T.map tV))
  o4 : σ A.a4 = some (.list (s.M.map natV))
  o5 : ∃ nw, σ A.a5 = some (.dict nw) ∧ nw.length ≤ k
  nd : A.l.Nodup
  tk : s.T.length ≤ k
  mm : s.M.length ≤ k
/-- all but these stand -/
noncomputable def Only (l : List Addr) (σ σ' : Sg) : Prop := ∀ b o, σ b = some o → b ∉ l → σ' b = some o
theorem Only.refl (l : List Addr) (σ : Sg) : Only l σ σ := fun _ _ e _ => e
theorem Only.upd {l : List Addr} {σ : Sg} {a : Addr} (h : a ∈ l) (o : O) : Only l σ (PyW.upd σ a o) := fun b o' e n => by
  have hne : b ≠ a := fun q => n (by rw [q]; exact h)
  rw [upd_ne _ _ hne]; exact e
theorem Only.trans {l : List Addr} {σ σ' σ'' : Sg} (x : Only l σ σ') (y : Only l σ' σ'') : Only l σ σ'' := fun b o e n => y b o (x b o e n) n
section
variable {c : Cx} (L : L2 c) {n : Nat} {σ : Sg} {Q : V → Sg → Prop} {A : SA} {s : SS} {k : Nat}
include L
theorem dom_spec (I : SIs σ A s k) {x : Nat} {d : List (Int × Int)} (hx : s.D[x]? = some d) (h : Q (dV d) σ) : CallV c (n + 1) (.ref 238) σ [.obj "Store" A.d, .int x] Q := by
  refine L.f_Store_dom rfl ?_
  simp?! [b_Store_dom, p_Store_dom, o_attr I.ns, nsOf, fl_1, o_idxr I.o1, at_nat, List.getElem?_map, hx, Option.map_some]
  exact h
noncomputable def isFix : List (Int × Int) → Bool
  | [p] => decide (p.1 = p.2)
  | _ => false
theorem is_fixed_spec (I : SIs σ A s k) {x : Nat} {d : List (Int × Int)} (hx : s.D[x]? = some d) (h : Q (.bool (isFix d)) σ) : CallV c (n + 1) (.ref 273) σ [.obj "Store" A.d, .int x] Q := by
  refine L.f_Store_is_fixed rfl ?_
  simp?! [b_Store_is_fixed, p_Store_is_fixed, o_attr I.ns, nsOf, fl_1, o_idxr I.o1, at_nat, List.getElem?_map, hx, Option.map_some, dV, List.length_map]
  match d with
  | [] => simpa [isFix] using h
  | [p] =>
    simp?! [List.map_cons, List.map_nil, iv]
    simpa [isFix] using h
  | _ :: _ :: r =>
    have e : ¬ (((r.length + 1 + 1 : Nat) : Int) = 1) := by omega
    simp?! [List.length_cons, e]
    simpa [isFix] using h
theorem value_spec (I : SIs σ A s k) {x : Nat} {p : Int × Int} {r : List (Int × Int)} (hx : s.D[x]? = some (p :: r)) (h : Q (.int p.1) σ) : CallV c (n + 1) (.ref 280) σ [.obj "Store" A.d, .int x] Q := by
  refine L.f_Store_value rfl ?_
  simp?! [b_Store_value, p_Store_value, o_attr I.ns, nsOf, fl_1, o_idxr I.o1, at_nat, List.getElem?_map, hx, Option.map_some, dV, List.map_cons, iv]
  exact h
theorem fail_spec (I : SIs σ A s k) {l : List V} (h : ∀ σ', SIs σ' A { s with f := true, cl := .tup l } k → Only A.l σ σ' → Q (.bool false) σ') : CallV c (n + 1) (.ref 322) σ [.obj "Store" A.d, .tup l] Q := by
  refine L.f_Store_fail rfl ?_
  have N := SA.ne I.nd
  have hu : ∀ o, upd σ A.d o A.d = some o := fun o => upd_same _ _ _
  simp?! [b_Store_fail, p_Store_fail, e_sattr I.ns, e_sattr (hu _), nsOf, fl_7, fl_8, upd_upd]
  refine ⟨by decide, by decide, h _ ⟨?_, ?_, ?_, ?_, ?_, ?_, I.nd, I.tk, I.mm⟩ (Only.upd (by simp [SA.l]) _)⟩
  · simp only [upd_app, ↓reduceIte, nsOf]
  · simp only [upd_app, N.h10, ↓reduceIte]; exact I.o1
  · simp only [upd_app, N.h20, ↓reduceIte]; exact I.o2
  · simp only [upd_app, N.h30, ↓reduceIte]; exact I.o3
  · simp only [upd_app, N.h40, ↓reduceIte]; exact I.o4
  · simp only [upd_app, N.h50, ↓reduceIte]; exact I.o5
theorem push_spec (I : SIs σ A s k) (hk : k ≤ 900) (h : ∀ σ', SIs σ' A { s with M := s.M ++ [s.T.length] } (k + 1) → Only A.l σ σ' → Q .none σ') : CallV c (n + 1) (.ref 329) σ [.obj "Store" A.d] Q := by
  refine L.f_Store_push rfl ?_
  have N := SA.ne I.nd
  have mk := I.mm
  simp?! [b_Store_push, p_Store_push, o_attr I.ns, nsOf, fl_3, fl_4, e_lenr I.o3, e_sapp I.o4, e_app I.o4, List.length_map]
  refine ⟨size5 (by omega), h _ ⟨?_, ?_, ?_, ?_, ?_, ?_, I.nd, by have := I.tk; exact Nat.le_succ_of_le this, by simp; omega⟩ (Only.upd (by simp [SA.l]) _)⟩
  · simp only [upd_app, N.h04, ↓reduceIte]; exact I.ns
  · simp only [upd_app, N.h14, ↓reduceIte]; exact I.o1
  · simp only [upd_app, N.h24, ↓reduceIte]; exact I.o2
  · simp only [upd_app, N.h34, ↓reduceIte]; exact I.o3
  · simp only [upd_app, ↓reduceIte]; simp [natV]
  · simp only [upd_app, N.h54, ↓reduceIte]; obtain ⟨nw, a, b⟩ := I.o5; exact ⟨nw, a, Nat.le_succ_of_le b⟩
theorem new_var_spec (I : SIs σ A s k) {d : List (Int × Int)} (hd : d ≠ []) (hz : s.D.length ≤ 900 ∧ s.F.length ≤ 900) (h : ∀ v σ', SIs σ' A { s with D := s.D ++ [d], F := s.F ++ [d] } k → Only A.l σ σ' → Q v σ') : CallV c (n + 1) (.ref 224) σ [.obj "Store" A.d, dV d] Q := by
  refine L.f_Store_new_var rfl ?_
  have N := SA.ne I.nd
  have e2 : upd σ A.a1 (O.list (s.D.map dV ++ [dV d])) A.d = some (.ns (nsOf A s)) := by rw [upd_ne _ _ N.h01]; exact I.ns
  have e3 : upd σ A.a1 (O.list (s.D.map dV ++ [dV d])) A.a2 = some (.list (s.F.map dV)) := by rw [upd_ne _ _ N.h21]; exact I.o2
  have e4 : upd (upd σ A.a1 (O.list (s.D.map dV ++ [dV d]))) A.a2 (O.list (s.F.map dV ++ [dV d])) A.d = some (.ns (nsOf A s)) := by rw [upd_ne _ _ N.h02]; exact e2
  have e5 : upd (upd σ A.a1 (O.list (s.D.map dV ++ [dV d]))) A.a2 (O.list (s.F.map dV ++ [dV d])) A.a1 = some (.list (s.D.map dV ++ [dV d])) := by rw [upd_ne _ _ N.h12, upd_same]
  have pe : pyEq (dV d) (.tup []) = false := by
    cases d with
    | nil => exact absurd rfl hd
    | cons p r => rfl
  have pp : plain 8 (dV d) := dV_plain 6 d
  rw [nsOf] at e2 e4
  have I0 := I.ns
  rw [nsOf] at I0
  simp?! [b_Store_new_var, p_Store_new_var, o_attr I0, e_sapp I.o1, e_app I.o1, o_attr e2, e_sapp e3, e_app e3, o_attr e4, e_lenr e5, pe, pp, fl_1, fl_2, List.length_map]
  refine ⟨size5 (by omega), size5 (by omega), size4 (by decide), h _ _ ⟨?_, ?_, ?_, ?_, ?_, ?_, I.nd, I.tk, I.mm⟩ ((Only.upd (by simp [SA.l]) _).trans (Only.upd (by simp [SA.l]) _))⟩
  · rw [e4]; rfl
  · rw [e5]; simp
  · rw [upd_same]; simp
  · simp only [upd_app, N.h32, N.h31, ↓reduceIte]; exact I.o3
  · simp only [upd_app, N.h42, N.h41, ↓reduceIte]; exact I.o4
  · simp only [upd_app, N.h52, N.h51, ↓reduceIte]; exact I.o5
end
end PyW
namespace PyW
theorem SIs.some {σ : Sg} {A : SA} {s : SS} {k : Nat} (I : SIs σ A s k) : ∀ b ∈ A.l, σ b ≠ none := by
  intro b hb
  simp only [SA.l, List.mem_cons, List.not_mem_nil, or_false] at hb
  obtain ⟨nw, o5, _⟩ := I.o5
  rcases hb with rfl | rfl | rfl | rfl | rfl | rfl
  · rw [I.ns]; exact fun q => nomatch q
  · rw [I.o1]; exact fun q => nomatch q
  · rw [I.o2]; exact fun q => nomatch q
  · rw [I.o3]; exact fun q => nomatch q
  · rw [I.o4]; exact fun q => nomatch q
  · rw [o5]; exact fun q => nomatch q
theorem SIs.fresh {σ : Sg} {A : SA} {s : SS} {k : Nat} (I : SIs σ A s k) {a : Addr} (ha : σ a = none) : a ∉ A.l := fun q => I.some a q ha
theorem SIs.ds {σ : Sg} {A : SA} {s : SS} {k : Nat} (I : SIs σ A s k) {D : List (List (Int × Int))} : SIs (upd σ A.a1 (.list (D.map dV))) A { s with D := D } k := by
  have N := SA.ne I.nd
  obtain ⟨nw, o5, ok⟩ := I.o5
  refine ⟨?_, by rw [upd_same], ?_, ?_, ?_, ⟨nw, ?_, ok⟩, I.nd, I.tk, I.mm⟩
  · rw [upd_ne _ _ N.h01]; exact I.ns
  · rw [upd_ne _ _ N.h21]; exact I.o2
  · rw [upd_ne _ _ N.h31]; exact I.o3
  · rw [upd_ne _ _ N.h41]; exact I.o4
  · rw [upd_ne _ _ N.h51]; exact o5
theorem SIs.ts {σ : Sg} {A : SA} {s : SS} {k : Nat} (I : SIs σ A s k) {T : List TE} (hT : T.length ≤ k) : SIs (upd σ A.a3 (.list (T.map tV))) A { s with T := T } k := by
  have N := SA.ne I.nd
  obtain ⟨nw, o5, ok⟩ := I.o5
  refine ⟨?_, ?_, ?_, by rw [upd_same], ?_, ⟨nw, ?_, ok⟩, I.nd, hT, I.mm⟩
  · rw [upd_ne _ _ N.h03]; exact I.ns
  · rw [upd_ne _ _ N.h13]; exact I.o1
  · rw [upd_ne _ _ N.h23]; exact I.o2
  · rw [upd_ne _ _ N.h43]; exact I.o4
  · rw [upd_ne _ _ N.h53]; exact o5
theorem SIs.nw {σ : Sg} {A : SA} {s : SS} {k : Nat} (I : SIs σ A s k) {nw : List (Int × V)} (hn : nw.length ≤ k) : SIs (upd σ A.a5 (.dict nw)) A s k := by
  have N := SA.ne I.nd
  refine ⟨?_, ?_, ?_, ?_, ?_, ⟨nw, by rw [upd_same], hn⟩, I.nd, I.tk, I.mm⟩
  · rw [upd_ne _ _ N.h05]; exact I.ns
  · rw [upd_ne _ _ N.h15]; exact I.o1
  · rw [upd_ne _ _ N.h25]; exact I.o2
  · rw [upd_ne _ _ N.h35]; exact I.o3
  · rw [upd_ne _ _ N.h45]; exact I.o4
theorem SIs.more {σ : Sg} {A : SA} {s : SS} {k m : Nat} (I : SIs σ A s k) (h : k ≤ m) : SIs σ A s m :=
  ⟨I.ns, I.o1, I.o2, I.o3, I.o4, let ⟨nw, a, b⟩ := I.o5; ⟨nw, a, Nat.le_trans b h⟩, I.nd, Nat.le_trans I.tk h, Nat.le_trans I.mm h⟩
theorem SIs.fc {σ : Sg} {A : SA} {s : SS} {k : Nat} (I : SIs σ A s k) {f : Bool} {cl : V} : SIs (upd σ A.d (.ns (nsOf A { s with f := f, cl := cl }))) A { s with f := f, cl := cl } k := by
  have N := SA.ne I.nd
  obtain ⟨nw, o5, ok⟩ := I.o5
  refine ⟨by rw [upd_same], ?_, ?_, ?_, ?_, ⟨nw, ?_, ok⟩, I.nd, I.tk, I.mm⟩
  · rw [upd_ne _ _ N.h10]; exact I.o1
  · rw [upd_ne _ _ N.h20]; exact I.o2
  · rw [upd_ne _ _ N.h30]; exact I.o3
  · rw [upd_ne _ _ N.h40]; exact I.o4
  · rw [upd_ne _ _ N.h50]; exact o5
theorem SIs.newM {σ : Sg} {A : SA} {s : SS} {k : Nat} (I : SIs σ A s k) {a : Addr} (ha : σ a = none) {M : List Nat} (hM : M.length ≤ k) :
    SIs (upd (upd σ a (.list (M.map natV))) A.d (.ns (nsOf { A with a4 := a } s))) { A with a4 := a } { s with M := M } k := by
  have na := I.fresh ha
  simp only [SA.l, List.mem_cons, List.not_mem_nil, or_false, not_or] at na
  obtain ⟨n0, n1, n2, n3, n4, n5⟩ := na
  have nd := I.nd
  have N := SA.ne I.nd
  obtain ⟨nw, o5, ok⟩ := I.o5
  refine ⟨by rw [upd_same]; rfl, ?_, ?_, ?_, ?_, ⟨nw, ?_, ok⟩, ?_, I.tk, hM⟩
  · rw [upd_ne _ _ N.h10, upd_ne _ _ (Ne.symm n1)]; exact I.o1
  · rw [upd_ne _ _ N.h20, upd_ne _ _ (Ne.symm n2)]; exact I.o2
  · rw [upd_ne _ _ N.h30, upd_ne _ _ (Ne.symm n3)]; exact I.o3
  · rw [upd_ne _ _ n0, upd_same]
  · rw [upd_ne _ _ N.h50, upd_ne _ _ (Ne.symm n5)]; exact o5
  · simp only [SA.l, List.nodup_cons, List.mem_cons, List.not_mem_nil, or_false, not_or, List.nodup_nil, and_true, not_false_eq_true]
    exact ⟨⟨N.h01, N.h02, N.h03, Ne.symm n0, N.h05⟩, ⟨N.h12, N.h13, Ne.symm n1, N.h15⟩, ⟨N.h23, Ne.symm n2, N.h25⟩, ⟨Ne.symm n3, N.h35⟩, n5⟩
theorem SIs.newN {σ : Sg} {A : SA} {s : SS} {k : Nat} (I : SIs σ A s k) {a : Addr} (ha : σ a = none) :
    SIs (upd (upd σ a (.dict [])) A.d (.ns (nsOf { A with a5 := a } s))) { A with a5 := a } s k := by
  have na := I.fresh ha
  simp only [SA.l, List.mem_cons, List.not_mem_nil, or_false, not_or] at na
  obtain ⟨n0, n1, n2, n3, n4, n5⟩ := na
  have N := SA.ne I.nd
  refine ⟨by rw [upd_same], ?_, ?_, ?_, ?_, ⟨[], ?_, by simp⟩, ?_, I.tk, I.mm⟩
  · rw [upd_ne _ _ N.h10, upd_ne _ _ (Ne.symm n1)]; exact I.o1
  · rw [upd_ne _ _ N.h20, upd_ne _ _ (Ne.symm n2)]; exact I.o2
  · rw [upd_ne _ _ N.h30, upd_ne _ _ (Ne.symm n3)]; exact I.o3
  · rw [upd_ne _ _ N.h40, upd_ne _ _ (Ne.symm n4)]; exact I.o4
  · rw [upd_ne _ _ n0, upd_same]
  · simp only [SA.l, List.nodup_cons, List.mem_cons, List.not_mem_nil, or_false, not_or, List.nodup_nil, and_true, not_false_eq_true]
    exact ⟨⟨N.h01, N.h02, N.h03, N.h04, Ne.symm n0⟩, ⟨N.h12, N.h13, N.h14, Ne.symm n1⟩, ⟨N.h23, N.h24, Ne.symm n2⟩, ⟨N.h34, Ne.symm n3⟩, Ne.symm n4⟩
theorem setD_len (l : List (Int × V)) (k : Int) (v : V) : (setD l k v).length ≤ l.length + 1 := by
  unfold setD; split <;> simp
section
variable {c : Cx} (L : L2 c) {n : Nat} {σ : Sg} {Q : V → Sg → Prop} {A : SA} {s : SS} {k : Nat}
include L
noncomputable def litV (x : Nat) (sg : String) (kk : Int) : V := .tup [.int x, .str sg, .int kk]
/-- what a strike leaves -/
noncomputable def Struck (s s' : SS) (x : Nat) (old fresh : List (Int × Int)) : Prop :=
  s'.D = s.D.set x fresh ∧ s'.M = s.M ∧ s'.F = s.F ∧ s'.f = s.f ∧ ((s'.T = s.T ∧ fresh = old) ∨ ∃ lit rea, s'.T = s.T ++ [⟨x, old, lit, rea⟩])
theorem enter_spec (I : SIs σ A s k) (hk : k ≤ 900) {x : Nat} {sg : String} {kk : Int} {rea : V} {old : List (Int × Int)} (hx : s.D[x]? = some old) (ho : 2 * old.length ≤ 1000) (hf : struckD sg kk old ≠ [])
    (h : ∀ σ' s', SIs σ' A s' (k + 1) → Only A.l σ σ' → Struck s s' x old (struckD sg kk old) → Q (.bool true) σ') : CallV c (n + 4) (.ref 301) σ [.obj "Store" A.d, litV x sg kk, rea, .int (-1)] Q := by
  refine L.f_Store_enter rfl ?_
  have I0 := I.ns
  rw [nsOf] at I0
  have pe : pyEq (dV (struckD sg kk old)) (.tup []) = false := by
    generalize struckD sg kk old = f at hf
    cases f with
    | nil => exact absurd rfl hf
    | cons p r => rfl
  have pp : ∀ d, plain 8 (dV d) := fun d => dV_plain 6 d
  have hxl : x < s.D.length := (List.getElem?_eq_some_iff.mp hx).1
  simp?! [b_Store_enter, p_Store_enter, litV, o_attr I0, fl_1, o_idxr I.o1, at_nat, List.getElem?_map, hx, Option.map_some]
  refine ⟨_, L.n_struck, struck_spec L ho ?_⟩
  simp?! [pe, pp, dV_eq, o_attr I0, fl_3, fl_1, fl_5]
  by_cases e : struckD sg kk old = old
  · simp?! [e]
    refine ⟨Nat.zero_le _, ?_⟩
    refine h σ s (I.more (Nat.le_succ _)) (Only.refl _ _) ⟨?_, rfl, rfl, rfl, .inl ⟨rfl, e⟩⟩
    rw [e]
    apply List.ext_getElem?
    intro i
    by_cases q : x = i
    · subst q; rw [List.getElem?_set_self hxl, hx]
    · rw [List.getElem?_set_ne q]
  · have It := (I.more (Nat.le_succ k)).ts (T := s.T ++ [⟨x, old, litV x sg kk, rea⟩]) (by have := I.tk; simp; omega)
    have et : (s.T ++ [(⟨x, old, litV x sg kk, rea⟩ : TE)]).map tV = s.T.map tV ++ [.tup [.int x, dV old, .tup [.int x, .str sg, .int kk], rea, .int (-1)]] := by simp [tV, litV]
    rw [et] at It
    have It0 := It.ns
    rw [nsOf] at It0
    have Id := It.ds (D := s.D.set x (struckD sg kk old))
    have ed : (s.D.set x (struckD sg kk old)).map dV = (s.D.map dV).set x (dV (struckD sg kk old)) := by rw [List.map_set]
    rw [ed] at Id
    have Id0 := Id.ns
    rw [nsOf] at Id0
    obtain ⟨nw, o5, ok⟩ := Id.o5
    obtain ⟨nw0, o50, ok0⟩ := I.o5
    have o5' : nw = nw0 := by
      have N := SA.ne I.nd
      rw [upd_ne _ _ N.h51, upd_ne _ _ N.h53, o50] at o5
      cases o5; rfl
    have In := Id.nw (nw := setD nw (x : Int) (.bool true)) (by have := setD_len nw (x : Int) (.bool true); subst o5'; omega)
    have idx : idxOf (s.D.map dV) (x : Int) = some x := by
      unfold idxOf
      rw [if_pos (by omega), if_pos (by simpa using hxl)]; simp
    simp?! [e, e_sapp I.o3, e_app I.o3, o_attr It0, o_setl It.o1, idx, o_attr Id0, e_setd o5, fl_1, fl_3, fl_5, List.length_map]
    refine ⟨Nat.zero_le _, size4 (by decide), size5 (by have := I.tk; omega), size5 (by subst o5'; omega), h _ _ In ?_ ⟨rfl, rfl, rfl, rfl, .inr ⟨litV x sg kk, rea, rfl⟩⟩⟩
    exact ((Only.upd (by simp [SA.l]) _).trans (Only.upd (by simp [SA.l]) _)).trans (Only.upd (by simp [SA.l]) _)
theorem decide_spec (I : SIs σ A s k) (hk : k ≤ 900) {x : Nat} {sg : String} {kk : Int} {old : List (Int × Int)} (hx : s.D[x]? = some old) (ho : 2 * old.length ≤ 1000) (hf : struckD sg kk old ≠ [])
    (h : ∀ σ' s', SIs σ' A s' (k + 1) → Only A.l σ σ' → Struck s s' x old (struckD sg kk old) → Q (.bool true) σ') : CallV c (n + 5) (.ref 315) σ [.obj "Store" A.d, litV x sg kk] Q := by
  refine L.f_Store_decide rfl ?_
  have I0 := I.ns
  rw [nsOf] at I0
  simp?! [b_Store_decide, p_Store_decide]
  refine ⟨_, L.m_Store_enter, ⟨_, I0, ?_⟩, ?_⟩
  · simp only [lk_ne, String.reduceBEq]; rfl
  · exact enter_spec L I hk hx ho hf h
theorem strike_spec (I : SIs σ A s k) (hk : k ≤ 900) {x : Nat} {sg : String} {kk : Int} {rea : List V} {old : List (Int × Int)} (hx : s.D[x]? = some old) (ho : 2 * old.length ≤ 1000) (hf : struckD sg kk old ≠ [])
    (h : ∀ σ' s', SIs σ' A s' (k + 1) → Only A.l σ σ' → Struck s s' x old (struckD sg kk old) → Q (.bool true) σ') : CallV c (n + 5) (.ref 308) σ [.obj "Store" A.d, litV x sg kk, .tup rea] Q := by
  refine L.f_Store_strike rfl ?_
  have I0 := I.ns
  rw [nsOf] at I0
  simp?! [b_Store_strike, p_Store_strike]
  refine ⟨_, L.m_Store_enter, ⟨_, I0, ?_⟩, ?_⟩
  · simp only [lk_ne, String.reduceBEq]; rfl
  · simp?! [o_attr I0, fl_6]
    exact enter_spec L I hk hx ho hf h
end
end PyW
namespace PyW
noncomputable def undo (t : List TE) (D : List (List (Int × Int))) : List (List (Int × Int)) := t.foldr (fun e D => D.set e.x e.old) D
theorem undo_length : ∀ (t : List TE) (D : List (List (Int × Int))), (undo t D).length = D.length
  | [], _ => rfl
  | e :: t, D => by show ((undo t D).set e.x e.old).length = _; rw [List.length_set, undo_length t D]
theorem undo_append (t u : List TE) (D : List (List (Int × Int))) : undo (t ++ u) D = undo t (undo u D) := by simp [undo, List.foldr_append]
theorem Only.cons {l : List Addr} {σ σ' : Sg} {a : Addr} (h : σ a = none) (x : Only (a :: l) σ σ') : Only l σ σ' := fun b o e n => x b o e (fun q => by
  rcases List.mem_cons.mp q with q | q
  · rw [q, h] at e; cases e
  · exact n q)
section
variable {c : Cx} (L : L2 c) {n : Nat} {σ : Sg} {Q : V → Sg → Prop} {A : SA} {s : SS} {k : Nat}
include L
theorem pop_spec (I : SIs σ A s k) {m : Nat} (hm : 1 ≤ m) (hm2 : m ≤ s.M.length) {mark : Nat} (hmk : s.M[s.M.length - m]? = some mark) (hmt : mark ≤ s.T.length) (hT : ∀ e ∈ s.T, e.x < s.D.length) (hz : s.F.length ≤ 900)
    (h : ∀ σ' A', SIs σ' A' { D := undo (s.T.drop mark) s.D, F := s.F, T := s.T.take mark, M := s.M.take (s.M.length - m), f := s.F.any (fun d => decide (d = [])), cl := .tup [] } k → A'.d = A.d → (∀ b ∈ A'.l, b ∈ A.l ∨ σ b = none) → Only A.l σ σ' → Q .none σ') :
    CallV c (n + 1) (.ref 336) σ [.obj "Store" A.d, .int m] Q := by
  refine L.f_Store_pop rfl ?_
  have I0 := I.ns
  rw [nsOf] at I0
  have e1 : ¬ ((m : Int) < 1) := by omega
  have e2 : ((s.M.length : Int) - (m : Int)) = ((s.M.length - m : Nat) : Int) := by omega
  simp?! [b_Store_pop, p_Store_pop, e1, o_attr I0, fl_4, e_lenr I.o4, o_idxr I.o4, List.length_map, e2, at_nat, List.getElem?_map, hmk, Option.map_some, natV, al_ref I.o4, Int.toNat_natCast, Int.natCast_nonneg]
  intro a ha
  have I1 := I.newM ha (M := s.M.take (s.M.length - m)) (by have := I.mm; simp; omega)
  have eM : (s.M.take (s.M.length - m)).map natV = (s.M.map natV).take (s.M.length - m) := by rw [List.map_take]
  rw [eM] at I1
  have na := I.fresh ha
  have nad : A.d ≠ a := fun q => na (by rw [← q]; simp [SA.l])
  have I0' : upd σ a (O.list ((s.M.map natV).take (s.M.length - m))) A.d = some (.ns [("domains", .ref A.a1), ("firsts", .ref A.a2), ("trail", .ref A.a3), ("marks", .ref A.a4), ("news", .ref A.a5), ("speaker", .int (-1)), ("is_failed", .bool s.f), ("clash", s.cl)]) := by
    rw [upd_ne _ _ nad]; exact I0
  have o1 : Only A.l σ (upd (upd σ a (O.list ((s.M.map natV).take (s.M.length - m)))) A.d (.ns (nsOf { A with a4 := a } s))) :=
    Only.cons ha ((Only.upd (List.mem_cons_self ..) _).trans (Only.upd (by simp [SA.l]) _))
  simp only [natV, e_sattr I0', fl_4, q_none, q_bool, q_int, q_str, q_var, q_bin, q_cmp, q_cx, q_and, q_or, q_not, q_neg, q_ite, q_tup, q_lst, q_dict0, q_idx, q_upto, q_attr, q_bi, q_me, q_call, q_mcall, q_comp, q_frz, q_nil, q_cons, q_and1, q_and2, b_not, b_and, b_or, b_cmp, b_cx, b_var, b_attr, b_call, b_mcall, a_nil, a_cons, i_over, i_zip, t_tl, t_attr, t_sub, s_assign, s_expr, s_ret, s_ret0, s_cond, s_while, s_for, s_pass, s_brk, s_nil, s_cons, k_next, k_brk, k_ret, k_fnr, k_fnn, k_neg, k_up2, k_mc1, k_z2, ov_some, ovr_some, kBd, kV, kB, kNotT, kNot, kNB, kTr, kBin2, kCmp2, kCx2, kTup, kLst, kIdx2, kUp3, kBi, kMe2, kCe, kFrz, kEs2, kOver, kFr, kNx, kEx, kRet, kSet, kBin1, kCmp1, kCx1, kAndT, kAnd, kIte, kIdx1, kUp1, kAttr, kMe1, kCall, kMc2, kCi, kCs, stepC, kComp, kEs1, kAll, kZ1, kTA, kTS2, kTS1, kAsg, kIf, bodyS, kFor, kWh, updsL_cons, updsL_nil, capt_app, bind_name, bind_names, lk_eq, lk_ne, setL_nil, setL_cons, e_add, e_sub, e_mul, e_fdiv, e_mod, e_addt, e_addl, e_lt, e_le, e_gt, e_ge, e_eq, e_ne, e_eqi, e_eqb, e_eqs, e_eqt, e_eql, e_eqn, e_eqc, e_eqnc, e_eqcn, p_none, p_bool, p_int, p_str, p_tup, p_list, p_nil, p_cons, e_is, e_isNot, e_eqv, e_nev, e_tb, e_tn, o_idxt, o_idxl, at_0, at_1, at_2, at_last, e_lent, e_lenl, e_sum, e_min, e_max, e_srt, e_tupt, e_tupl, e_lstl, e_lstt, e_rng1, e_rng2, e_QLf, e_QLt, i_list, i_tup, rl_list, al_list, frOf, upd_app, isNone, String.reduceEq, String.reduceBEq, Option.some.injEq, exists_eq_left', exists_eq_left, true_and, and_true, and_self, List.length_cons, List.length_nil, decide_eq_true_eq, List.mem_cons, List.not_mem_nil, or_false, false_or, or_true, true_or, forall_eq, Bool.not_true, Bool.not_false, reduceCtorEq, ↓reduceIte, if_true, Bool.false_eq_true, implies_true, Option.isSome_some, Nat.reduceAdd, V.tup.injEq, List.cons.injEq, forall_eq_or_imp, V.list.injEq, V.int.injEq, V.bool.injEq, decide_true, decide_false, false_imp_iff, forall_const, List.nil_append, List.cons_append, Option.getD_some, Option.getD_none, Bool.true_and, Bool.and_true] at I1 o1 ⊢
  refine ⟨by decide, ?_⟩
  refine whl_of (fun j fr σ' => fr "self" = some (.obj "Store" A.d) ∧ fr "mark" = some (.int mark) ∧ mark ≤ j ∧ j ≤ s.T.length ∧ SIs σ' { A with a4 := a } { s with D := undo (s.T.drop j) s.D, T := s.T.take j, M := s.M.take (s.M.length - m) } k ∧ Only A.l σ σ') s.T.length ?_ ?_
  · simp?! [kV]
    refine ⟨hmt, Nat.le_refl _, ?_, o1⟩
    rw [List.drop_length, List.take_length]
    exact I1
  · rintro j fr σ' K ⟨f1, f2, hj1, hj2, Ij, oj⟩ kn kb kr
    have Ij0 := Ij.ns
    rw [nsOf] at Ij0
    have lj : (s.T.take j).length = j := by simp; omega
    simp?! [f1, f2, o_attr Ij0, fl_3, e_lenr Ij.o3, List.length_map, lj]
    by_cases hgt : mark < j
    · have hgt' : ((j : Int) > (mark : Int)) := by omega
      obtain ⟨i, rfl⟩ : ∃ i, j = i + 1 := ⟨j - 1, by omega⟩
      have hi : i < s.T.length := by omega
      have et : s.T.take (i + 1) = s.T.take i ++ [s.T[i]] := by rw [List.take_add_one, List.getElem?_eq_getElem hi]; rfl
      have o3 := Ij.o3
      dsimp only at o3
      rw [et, List.map_append, List.map_singleton] at o3
      have hx : (s.T[i]).x < s.D.length := hT _ (List.getElem_mem hi)
      have It := (Ij.ts (T := s.T.take i) (by have := I.tk; simp; omega))
      have It0 := It.ns
      rw [nsOf] at It0
      have ed : undo (s.T.drop i) s.D = (undo (s.T.drop (i + 1)) s.D).set s.T[i].x s.T[i].old := by rw [List.drop_eq_getElem_cons hi]; rfl
      have Id := It.ds (D := undo (s.T.drop i) s.D)
      rw [ed, List.map_set] at Id
      have idx : idxOf ((undo (s.T.drop (i + 1)) s.D).map dV) ((s.T[i]).x : Int) = some (s.T[i]).x := by
        unfold idxOf
        rw [if_pos (by omega), if_pos (by simp [undo_length]; omega)]; simp
      generalize hE : s.T[i] = e at *
      simp?! [hgt', e_spop o3, e_pop o3, tV, o_attr It0, fl_1, o_setl It.o1, idx, f1]
      refine kn i _ _ (by omega) ⟨by simp?! [kV]; exact f1, by simp?! [kV]; exact f2, by omega, by omega, ?_, ?_⟩
      · have : undo (s.T.drop i) s.D = (undo (s.T.drop (i + 1)) s.D).set e.x e.old := ed
        rw [this]
        exact Id
      · exact oj.trans ((Only.upd (by simp [SA.l]) _).trans (Only.upd (by simp [SA.l]) _))
    · have hgt' : ¬ ((j : Int) > (mark : Int)) := by omega
      have hj : j = mark := by omega
      subst hj
      simp?! [hgt', f1]
      intro a' ha'
      have In := Ij.newN ha'
      have na' := Ij.fresh ha'
      have nad' : A.d ≠ a' := fun q => na' (by rw [← q]; simp [SA.l])
      have In0' : upd σ' a' (O.dict []) A.d = some (.ns [("domains", .ref A.a1), ("firsts", .ref A.a2), ("trail", .ref A.a3), ("marks", .ref a), ("news", .ref A.a5), ("speaker", .int (-1)), ("is_failed", .bool s.f), ("clash", s.cl)]) := by
        rw [upd_ne _ _ nad']; exact Ij0
      have In0 := In.ns
      have hF := In.o2
      have eqn : ∀ d : List (Int × Int), pyEq (dV d) (.tup []) = decide (d = []) := fun d => dV_eq d []
      have anyF : ((s.F.map dV).any fun y => pyEq y (.tup [])) = s.F.any fun d => decide (d = []) := by
        rw [List.any_map]; congr 1; funext d; exact eqn d
      have pF : plains 7 (s.F.map dV) := p_map (dV_plain 5) _
      have Ic := (In.fc (f := s.F.any fun d => decide (d = [])) (cl := s.cl))
      have Ic0 := Ic.ns
      have Ie := (In.fc (f := s.F.any fun d => decide (d = [])) (cl := .tup []))
      simp only [nsOf, upd_upd] at In0 hF Ic0 Ie
      simp?! [f1, f2, e_sattr In0', o_attr In0, e_sattr In0, o_isIn (sq_ref hF), anyF, pF, e_sattr Ic0, fl_2, fl_5, fl_7, fl_8, upd_upd]
      refine ⟨by decide, by decide, by decide, Nat.zero_le _, by decide, h _ _ Ie rfl ?_ ?_⟩
      · intro b hb
        simp only [SA.l, List.mem_cons, List.not_mem_nil, or_false] at hb ⊢
        rcases hb with rfl | rfl | rfl | rfl | rfl | rfl
        · simp
        · simp
        · simp
        · simp
        · exact .inr ha
        · cases e : σ b with
          | none => exact .inr rfl
          | some o =>
            left
            by_cases q : b ∈ A.l
            · simpa [SA.l] using q
            · have := oj b o e q; rw [ha'] at this; cases this
      · refine oj.trans (fun b o e q => ?_)
        have q0 : b ≠ A.d := fun z => q (by rw [z]; simp [SA.l])
        have q1 : b ≠ a' := fun z => by rw [z, ha'] at e; cases e
        simp only [upd_app, q0, q1, ↓reduceIte]; exact e
omit L in
theorem none_upd {σ : Sg} {a b : Addr} {o : O} (h : upd σ a o b = none) : b ≠ a ∧ σ b = none := by
  by_cases q : b = a
  · subst q; rw [upd_same] at h; cases h
  · rw [upd_ne _ _ q] at h; exact ⟨q, h⟩
theorem store_spec (h : ∀ A σ', SIs σ' A ⟨[], [], [], [], false, .tup []⟩ 0 → Only [] σ σ' → (∀ b ∈ A.l, σ b = none) → Q (.obj "Store" A.d) σ') : CallV c (n + 2) (.ref 353) σ [] Q := by
  refine L.c_Store fun d hd => ?_
  refine L.f_Store_init rfl ?_
  have d0 : upd σ d (O.ns []) d = some (.ns []) := upd_same _ _ _
  have k0 : ∀ b, upd σ d (O.ns []) b = none → b ≠ d ∧ σ b = none := fun b q => none_upd q
  have t0 : ∀ b o, σ b = some o → upd σ d (O.ns []) b = some o := fun b o e => by
    have : b ≠ d := fun q => by rw [q, hd] at e; cases e
    rw [upd_ne _ _ this]; exact e
  simp? [b_Store_init, p_Store_init]
  generalize hs0 : upd σ d (O.ns []) = σ0 at *
  refine ⟨Nat.zero_le _, fun a1 g1 => ?_⟩
  have nd1 : a1 ≠ d := fun q => by rw [q, d0] at g1; cases g1
  have z1 : σ a1 = none := by
    cases e : σ a1 with
    | none => rfl
    | some o => rw [t0 _ _ e] at g1; cases g1
  have e1 : upd σ0 a1 (O.list []) d = some (.ns []) := by rw [upd_ne _ _ (Ne.symm nd1)]; exact d0
  simp? [e_sattr e1, fl_1]
  refine ⟨by simp, ?_⟩
  have d1 : upd (upd σ0 a1 (O.list [])) d (.ns [("domains", V.ref a1)]) d = some (.ns [("domains", V.ref a1)]) := upd_same _ _ _
  have o1_a1 : upd (upd σ0 a1 (O.list [])) d (.ns [("domains", V.ref a1)]) a1 = some (O.list []) := by rw [upd_ne _ _ nd1, upd_same]
  have t1 : ∀ b o, σ b = some o → upd (upd σ0 a1 (O.list [])) d (.ns [("domains", V.ref a1)]) b = some o := fun b o e => by
    have q1 : b ≠ d := fun q => by rw [q, hd] at e; cases e
    have q2 : b ≠ a1 := fun q => by rw [q, z1] at e; cases e
    rw [upd_ne _ _ q1, upd_ne _ _ q2]; exact t0 _ _ e
  generalize hs1 : upd (upd σ0 a1 (O.list [])) d (O.ns [("domains", V.ref a1)]) = σ1 at *
  refine ⟨Nat.zero_le _, fun a2 g2 => ?_⟩
  have nd2 : a2 ≠ d := fun q => by rw [q, d1] at g2; cases g2
  have n2_a1 : a2 ≠ a1 := fun q => by rw [q, o1_a1] at g2; cases g2
  have z2 : σ a2 = none := by
    cases e : σ a2 with
    | none => rfl
    | some o => rw [t1 _ _ e] at g2; cases g2
  have e2 : upd σ1 a2 (O.list []) d = some (.ns [("domains", V.ref a1)]) := by rw [upd_ne _ _ (Ne.symm nd2)]; exact d1
  simp? [e_sattr e2, fl_2]
  refine ⟨by simp, ?_⟩
  have d2 : upd (upd σ1 a2 (O.list [])) d (.ns [("domains", V.ref a1), ("firsts", V.ref a2)]) d = some (.ns [("domains", V.ref a1), ("firsts", V.ref a2)]) := upd_same _ _ _
  have o2_a2 : upd (upd σ1 a2 (O.list [])) d (.ns [("domains", V.ref a1), ("firsts", V.ref a2)]) a2 = some (O.list []) := by rw [upd_ne _ _ nd2, upd_same]
  have o2_a1 : upd (upd σ1 a2 (O.list [])) d (.ns [("domains", V.ref a1), ("firsts", V.ref a2)]) a1 = some (O.list []) := by rw [upd_ne _ _ nd1, upd_ne _ _ (Ne.symm n2_a1)]; exact o1_a1
  have t2 : ∀ b o, σ b = some o → upd (upd σ1 a2 (O.list [])) d (.ns [("domains", V.ref a1), ("firsts", V.ref a2)]) b = some o := fun b o e => by
    have q1 : b ≠ d := fun q => by rw [q, hd] at e; cases e
    have q2 : b ≠ a2 := fun q => by rw [q, z2] at e; cases e
    rw [upd_ne _ _ q1, upd_ne _ _ q2]; exact t1 _ _ e
  generalize hs2 : upd (upd σ1 a2 (O.list [])) d (O.ns [("domains", V.ref a1), ("firsts", V.ref a2)]) = σ2 at *
  refine ⟨Nat.zero_le _, fun a3 g3 => ?_⟩
  have nd3 : a3 ≠ d := fun q => by rw [q, d2] at g3; cases g3
  have n3_a1 : a3 ≠ a1 := fun q => by rw [q, o2_a1] at g3; cases g3
  have n3_a2 : a3 ≠ a2 := fun q => by rw [q, o2_a2] at g3; cases g3
  have z3 : σ a3 = none := by
    cases e : σ a3 with
    | none => rfl
    | some o => rw [t2 _ _ e] at g3; cases g3
  have e3 : upd σ2 a3 (O.list []) d = some (.ns [("domains", V.ref a1), ("firsts", V.ref a2)]) := by rw [upd_ne _ _ (Ne.symm nd3)]; exact d2
  simp? [e_sattr e3, fl_3]
  refine ⟨by simp, ?_⟩
  have d3 : upd (upd σ2 a3 (O.list [])) d (.ns [("domains", V.ref a1), ("firsts", V.ref a2), ("trail", V.ref a3)]) d = some (.ns [("domains", V.ref a1), ("firsts", V.ref a2), ("trail", V.ref a3)]) := upd_same _ _ _
  have o3_a3 : upd (upd σ2 a3 (O.list [])) d (.ns [("domains", V.ref a1), ("firsts", V.ref a2), ("trail", V.ref a3)]) a3 = some (O.list []) := by rw [upd_ne _ _ nd3, upd_same]
  have o3_a1 : upd (upd σ2 a3 (O.list [])) d (.ns [("domains", V.ref a1), ("firsts", V.ref a2), ("trail", V.ref a3)]) a1 = some (O.list []) := by rw [upd_ne _ _ nd1, upd_ne _ _ (Ne.symm n3_a1)]; exact o2_a1
  have o3_a2 : upd (upd σ2 a3 (O.list [])) d (.ns [("domains", V.ref a1), ("firsts", V.ref a2), ("trail", V.ref a3)]) a2 = some (O.list []) := by rw [upd_ne _ _ nd2, upd_ne _ _ (Ne.symm n3_a2)]; exact o2_a2
  have t3 : ∀ b o, σ b = some o → upd (upd σ2 a3 (O.list [])) d (.ns [("domains", V.ref a1), ("firsts", V.ref a2), ("trail", V.ref a3)]) b = some o := fun b o e => by
    have q1 : b ≠ d := fun q => by rw [q, hd] at e; cases e
    have q2 : b ≠ a3 := fun q => by rw [q, z3] at e; cases e
    rw [upd_ne _ _ q1, upd_ne _ _ q2]; exact t2 _ _ e
  generalize hs3 : upd (upd σ2 a3 (O.list [])) d (O.ns [("domains", V.ref a1), ("firsts", V.ref a2), ("trail", V.ref a3)]) = σ3 at *
  refine ⟨Nat.zero_le _, fun a4 g4 => ?_⟩
  have nd4 : a4 ≠ d := fun q => by rw [q, d3] at g4; cases g4
  have n4_a1 : a4 ≠ a1 := fun q => by rw [q, o3_a1] at g4; cases g4
  have n4_a2 : a4 ≠ a2 := fun q => by rw [q, o3_a2] at g4; cases g4
  have n4_a3 : a4 ≠ a3 := fun q => by rw [q, o3_a3] at g4; cases g4
  have z4 : σ a4 = none := by
    cases e : σ a4 with
    | none => rfl
    | some o => rw [t3 _ _ e] at g4; cases g4
  have e4 : upd σ3 a4 (O.list []) d = some (.ns [("domains", V.ref a1), ("firsts", V.ref a2), ("trail", V.ref a3)]) := by rw [upd_ne _ _ (Ne.symm nd4)]; exact d3
  simp? [e_sattr e4, fl_4]
  refine ⟨by simp, ?_⟩
  have d4 : upd (upd σ3 a4 (O.list [])) d (.ns [("domains", V.ref a1), ("firsts", V.ref a2), ("trail", V.ref a3), ("marks", V.ref a4)]) d = some (.ns [("domains", V.ref a1), ("firsts", V.ref a2), ("trail", V.ref a3), ("marks", V.ref a4)]) := upd_same _ _ _
  have o4_a4 : upd (upd σ3 a4 (O.list [])) d (.ns [("domains", V.ref a1), ("firsts", V.ref a2), ("trail", V.ref a3), ("marks", V.ref a4)]) a4 = some (O.list []) := by rw [upd_ne _ _ nd4, upd_same]
  have o4_a1 : upd (upd σ3 a4 (O.list [])) d (.ns [("domains", V.ref a1), ("firsts", V.ref a2), ("trail", V.ref a3), ("marks", V.ref a4)]) a1 = some (O.list []) := by rw [upd_ne _ _ nd1, upd_ne _ _ (Ne.symm n4_a1)]; exact o3_a1
  have o4_a2 : upd (upd σ3 a4 (O.list [])) d (.ns [("domains", V.ref a1), ("firsts", V.ref a2), ("trail", V.ref a3), ("marks", V.ref a4)]) a2 = some (O.list []) := by rw [upd_ne _ _ nd2, upd_ne _ _ (Ne.symm n4_a2)]; exact o3_a2
  have o4_a3 : upd (upd σ3 a4 (O.list [])) d (.ns [("domains", V.ref a1), ("firsts", V.ref a2), ("trail", V.ref a3), ("marks", V.ref a4)]) a3 = some (O.list []) := by rw [upd_ne _ _ nd3, upd_ne _ _ (Ne.symm n4_a3)]; exact o3_a3
  have t4 : ∀ b o, σ b = some o → upd (upd σ3 a4 (O.list [])) d (.ns [("domains", V.ref a1), ("firsts", V.ref a2), ("trail", V.ref a3), ("marks", V.ref a4)]) b = some o := fun b o e => by
    have q1 : b ≠ d := fun q => by rw [q, hd] at e; cases e
    have q2 : b ≠ a4 := fun q => by rw [q, z4] at e; cases e
    rw [upd_ne _ _ q1, upd_ne _ _ q2]; exact t3 _ _ e
  generalize hs4 : upd (upd σ3 a4 (O.list [])) d (O.ns [("domains", V.ref a1), ("firsts", V.ref a2), ("trail", V.ref a3), ("marks", V.ref a4)]) = σ4 at *
  refine fun a5 g5 => ?_
  have nd5 : a5 ≠ d := fun q => by rw [q, d4] at g5; cases g5
  have n5_a1 : a5 ≠ a1 := fun q => by rw [q, o4_a1] at g5; cases g5
  have n5_a2 : a5 ≠ a2 := fun q => by rw [q, o4_a2] at g5; cases g5
  have n5_a3 : a5 ≠ a3 := fun q => by rw [q, o4_a3] at g5; cases g5
  have n5_a4 : a5 ≠ a4 := fun q => by rw [q, o4_a4] at g5; cases g5
  have z5 : σ a5 = none := by
    cases e : σ a5 with
    | none => rfl
    | some o => rw [t4 _ _ e] at g5; cases g5
  have e5 : upd σ4 a5 (O.dict []) d = some (.ns [("domains", V.ref a1), ("firsts", V.ref a2), ("trail", V.ref a3), ("marks", V.ref a4)]) := by rw [upd_ne _ _ (Ne.symm nd5)]; exact d4
  simp? [e_sattr e5, fl_5]
  refine ⟨by simp, ?_⟩
  have d5 : upd (upd σ4 a5 (O.dict [])) d (.ns [("domains", V.ref a1), ("firsts", V.ref a2), ("trail", V.ref a3), ("marks", V.ref a4), ("news", V.ref a5)]) d = some (.ns [("domains", V.ref a1), ("firsts", V.ref a2), ("trail", V.ref a3), ("marks", V.ref a4), ("news", V.ref a5)]) := upd_same _ _ _
  have o5_a5 : upd (upd σ4 a5 (O.dict [])) d (.ns [("domains", V.ref a1), ("firsts", V.ref a2), ("trail", V.ref a3), ("marks", V.ref a4), ("news", V.ref a5)]) a5 = some (O.dict []) := by rw [upd_ne _ _ nd5, upd_same]
  have o5_a1 : upd (upd σ4 a5 (O.dict [])) d (.ns [("domains", V.ref a1), ("firsts", V.ref a2), ("trail", V.ref a3), ("marks", V.ref a4), ("news", V.ref a5)]) a1 = some (O.list []) := by rw [upd_ne _ _ nd1, upd_ne _ _ (Ne.symm n5_a1)]; exact o4_a1
  have o5_a2 : upd (upd σ4 a5 (O.dict [])) d (.ns [("domains", V.ref a1), ("firsts", V.ref a2), ("trail", V.ref a3), ("marks", V.ref a4), ("news", V.ref a5)]) a2 = some (O.list []) := by rw [upd_ne _ _ nd2, upd_ne _ _ (Ne.symm n5_a2)]; exact o4_a2
  have o5_a3 : upd (upd σ4 a5 (O.dict [])) d (.ns [("domains", V.ref a1), ("firsts", V.ref a2), ("trail", V.ref a3), ("marks", V.ref a4), ("news", V.ref a5)]) a3 = some (O.list []) := by rw [upd_ne _ _ nd3, upd_ne _ _ (Ne.symm n5_a3)]; exact o4_a3
  have o5_a4 : upd (upd σ4 a5 (O.dict [])) d (.ns [("domains", V.ref a1), ("firsts", V.ref a2), ("trail", V.ref a3), ("marks", V.ref a4), ("news", V.ref a5)]) a4 = some (O.list []) := by rw [upd_ne _ _ nd4, upd_ne _ _ (Ne.symm n5_a4)]; exact o4_a4
  have t5 : ∀ b o, σ b = some o → upd (upd σ4 a5 (O.dict [])) d (.ns [("domains", V.ref a1), ("firsts", V.ref a2), ("trail", V.ref a3), ("marks", V.ref a4), ("news", V.ref a5)]) b = some o := fun b o e => by
    have q1 : b ≠ d := fun q => by rw [q, hd] at e; cases e
    have q2 : b ≠ a5 := fun q => by rw [q, z5] at e; cases e
    rw [upd_ne _ _ q1, upd_ne _ _ q2]; exact t4 _ _ e
  generalize hs5 : upd (upd σ4 a5 (O.dict [])) d (O.ns [("domains", V.ref a1), ("firsts", V.ref a2), ("trail", V.ref a3), ("marks", V.ref a4), ("news", V.ref a5)]) = σ5 at *
  have u6 : ∀ o, upd σ5 d o d = some o := fun o => upd_same _ _ _
  simp? [e_sattr d5, e_sattr (u6 _), upd_upd, fl_6, fl_7, fl_8, Int.reduceNeg]
  refine ⟨by simp, by simp, Nat.zero_le _, by simp, h ⟨d, a1, a2, a3, a4, a5⟩ _ ⟨by rw [upd_same]; rfl, ?_, ?_, ?_, ?_, ⟨[], ?_, Nat.le_refl _⟩, ?_, Nat.le_refl _, Nat.le_refl _⟩ (fun b o e _ => ?_) (fun b hb => ?_)⟩
  · rw [upd_ne _ _ nd1]; exact o5_a1
  · rw [upd_ne _ _ nd2]; exact o5_a2
  · rw [upd_ne _ _ nd3]; exact o5_a3
  · rw [upd_ne _ _ nd4]; exact o5_a4
  · rw [upd_ne _ _ nd5]; exact o5_a5
  · simp only [SA.l, List.nodup_cons, List.mem_cons, List.not_mem_nil, or_false, not_or, List.nodup_nil, and_true, not_false_eq_true]
    exact ⟨⟨Ne.symm nd1, Ne.symm nd2, Ne.symm nd3, Ne.symm nd4, Ne.symm nd5⟩, ⟨Ne.symm n2_a1, Ne.symm n3_a1, Ne.symm n4_a1, Ne.symm n5_a1⟩, ⟨Ne.symm n3_a2, Ne.symm n4_a2, Ne.symm n5_a2⟩, ⟨Ne.symm n4_a3, Ne.symm n5_a3⟩, Ne.symm n5_a4⟩
  · have q1 : b ≠ d := fun q => by rw [q, hd] at e; cases e
    rw [upd_ne _ _ q1]; exact t5 _ _ e
  · simp only [SA.l, List.mem_cons, List.not_mem_nil, or_false] at hb
    rcases hb with rfl | rfl | rfl | rfl | rfl | rfl <;> assumption
end
end PyW
namespace PyW
/-! ### rows -/
noncomputable def pV (p : Int × Nat) : V := .tup [.int p.1, .int p.2]
noncomputable def times (terms : List (Int × Nat)) (x : Nat) : Int := ((terms.filter fun p => decide (p.2 = x)).map (·.1)).sum
noncomputable def Pm (terms : List (Int × Nat)) (m : Nat) : List (Int × Nat) := (List.range m).filterMap fun x => if times terms x ≠ 0 then some (times terms x, x) else none
structure RIs (σ : Sg) (r : Addr) (kind : String) (parts : List (Int × Nat)) (c0 : Int) : Prop where
  ns : σ r = some (.ns [("kind", .str kind), ("parts", .list (parts.map pV)), ("c", .int c0)])
theorem RIs.keep {σ σ' : Sg} {l : List Addr} {r : Addr} {kind : String} {parts : List (Int × Nat)} {c0 : Int} (I : RIs σ r kind parts c0) (o : Only l σ σ') (h : r ∉ l) : RIs σ' r kind parts c0 := ⟨o _ _ I.ns h⟩
theorem SIs.keep {σ σ' : Sg} {A : SA} {s : SS} {k : Nat} (I : SIs σ A s k) (h : ∀ b ∈ A.l, σ' b = σ b) : SIs σ' A s k := by
  have q : ∀ b, b ∈ A.l → σ' b = σ b := h
  refine ⟨?_, ?_, ?_, ?_, ?_, ?_, I.nd, I.tk, I.mm⟩
  · rw [q _ (by simp [SA.l])]; exact I.ns
  · rw [q _ (by simp [SA.l])]; exact I.o1
  · rw [q _ (by simp [SA.l])]; exact I.o2
  · rw [q _ (by simp [SA.l])]; exact I.o3
  · rw [q _ (by simp [SA.l])]; exact I.o4
  · rw [q _ (by simp [SA.l])]; exact I.o5
theorem SIs.updF {σ : Sg} {A : SA} {s : SS} {k : Nat} (I : SIs σ A s k) {a : Addr} (h : a ∉ A.l) (o : O) : SIs (upd σ a o) A s k :=
  I.keep fun b hb => upd_ne _ _ (fun q => h (q ▸ hb))
/-- the value of what is fixed -/
noncomputable def fixV (d : List (Int × Int)) : Option Int := match d with
  | [p] => if p.1 = p.2 then some p.1 else none
  | _ => none
theorem isFix_fixV (d : List (Int × Int)) : isFix d = (fixV d).isSome := by
  match d with
  | [] => rfl
  | [p] => simp only [isFix, fixV]; by_cases h : p.1 = p.2 <;> simp [h]
  | _ :: _ :: _ => rfl
noncomputable def dAt (D : List (List (Int × Int))) (x : Nat) : List (Int × Int) := D.getD x []
noncomputable def lOpen (D : List (List (Int × Int))) (parts : List (Int × Nat)) : List (Int × Nat) := parts.filter fun p => !(isFix (dAt D p.2))
noncomputable def lSum (D : List (List (Int × Int))) (parts : List (Int × Nat)) : Int := (parts.map fun p => p.1 * (fixV (dAt D p.2)).getD 0).sum
noncomputable def rV (x : Nat) (v : Int) : V := .tup [.int x, .str "=", .int v]
noncomputable def lRea (D : List (List (Int × Int))) (parts : List (Int × Nat)) : List (Nat × Int) := parts.filterMap fun p => (fixV (dAt D p.2)).map fun v => (p.2, v)
section
variable {c : Cx} (L : L2 c) {n : Nat} {σ : Sg} {Q : V → Sg → Prop} {A : SA} {s : SS} {k : Nat}
include L
theorem last_spec (I : SIs σ A s k) {r : Addr} {kind : String} {parts : List (Int × Nat)} {c0 : Int} (R : RIs σ r kind parts c0) (hr : r ∉ A.l) (hx : ∀ p ∈ parts, p.2 < s.D.length ∧ p.1.natAbs < 2 ^ 60) (hz : parts.length ≤ 900)
    (h : Q (.tup [.list ((lOpen s.D parts).map pV), .int (c0 - lSum s.D parts), .tup ((lRea s.D parts).map fun p => rV p.1 p.2)]) σ) : CallV c (n + 2) (.ref 71) σ [.obj "Row" r, .obj "Store" A.d] Q := by
  refine L.f_Row_last rfl ?_
  simp? [b_Row_last, p_Row_last, o_attr R.ns, fl_b, fl_c]
  refine ⟨Nat.zero_le _, fun a ha => ?_⟩
  have na := I.fresh ha
  have nra : r ≠ a := fun q => by have := R.ns; rw [q, ha] at this; cases this
  have R1 : upd σ a (O.list []) r = some (.ns [("kind", .str kind), ("parts", .list (parts.map pV)), ("c", .int c0)]) := by rw [upd_ne _ _ nra]; exact R.ns
  simp? [o_attr R1, fl_c]
  refine ⟨Nat.zero_le _, fun b hb => ?_⟩
  have nba : b ≠ a ∧ σ b = none := none_upd hb
  have nb := I.fresh nba.2
  have nrb : r ≠ b := fun q => by rw [← q, R.ns] at nba; exact nomatch nba.2
  have R2 : upd (upd σ a (O.list [])) b (O.list []) r = some (.ns [("kind", .str kind), ("parts", .list (parts.map pV)), ("c", .int c0)]) := by rw [upd_ne _ _ nrb]; exact R1
  simp? [o_attr R2, fl_b]
  refine ⟨size4 (by decide), ?_⟩
  refine loopS_inv pV (fun done rest fr σ' => parts = done ++ rest ∧ fr "store" = some (.obj "Store" A.d) ∧ fr "opened" = some (.ref a) ∧ fr "reasons" = some (.ref b) ∧ fr "lack" = some (.int (c0 - lSum s.D done)) ∧
    σ' = upd (upd σ a (.list ((lOpen s.D done).map pV))) b (.list ((lRea s.D done).map fun p => rV p.1 p.2))) ?_ ?_ parts [] _ _ ?_
  · rintro done p rest fr σ' K ⟨hd, f1, f2, f3, f4, rfl⟩ kn kr
    have I' : SIs (upd (upd σ a (.list ((lOpen s.D done).map pV))) b (.list ((lRea s.D done).map fun p => rV p.1 p.2))) A s k := (I.updF na _).updF nb _
    obtain ⟨hp1, hp2⟩ := hx p (by rw [hd]; simp)
    have hD : s.D[p.2]? = some (dAt s.D p.2) := by rw [dAt, List.getD_eq_getElem?_getD, List.getElem?_eq_getElem hp1]; rfl
    have len := congrArg List.length hd
    simp only [List.length_append, List.length_cons] at len
    have l1 : (lOpen s.D done).length ≤ done.length := List.length_filter_le _ _
    have l2 : (lRea s.D done).length ≤ done.length := List.length_filterMap_le _ _
    have hub := upd_same (upd σ a (.list ((lOpen s.D done).map pV))) b (O.list ((lRea s.D done).map fun p => rV p.1 p.2))
    have hua : upd (upd σ a (.list ((lOpen s.D done).map pV))) b (O.list ((lRea s.D done).map fun p => rV p.1 p.2)) a = some (.list ((lOpen s.D done).map pV)) := by rw [upd_ne _ _ (Ne.symm nba.1), upd_same]
    have I0 := I'.ns
    rw [nsOf] at I0
    have noShadow : ∀ y : String, ("domains" == y || "firsts" == y || "trail" == y || "marks" == y || "news" == y || "speaker" == y || "is_failed" == y || "clash" == y) = false → ∃ l, upd (upd σ a (.list ((lOpen s.D done).map pV))) b (O.list ((lRea s.D done).map fun p => rV p.1 p.2)) A.d = some (.ns l) ∧ l.lookup y = none := fun y hy => by
      refine ⟨_, I0, ?_⟩
      simp only [Bool.or_eq_false_iff] at hy
      obtain ⟨⟨⟨⟨⟨⟨⟨q1, q2⟩, q3⟩, q4⟩, q5⟩, q6⟩, q7⟩, q8⟩ := hy
      have sw : ∀ z : String, (z == y) = false → (y == z) = false := fun z h => by
        rw [beq_eq_false_iff_ne] at h ⊢; exact Ne.symm h
      rw [lk_ne _ _ (sw _ q1), lk_ne _ _ (sw _ q2), lk_ne _ _ (sw _ q3), lk_ne _ _ (sw _ q4), lk_ne _ _ (sw _ q5), lk_ne _ _ (sw _ q6), lk_ne _ _ (sw _ q7), lk_ne _ _ (sw _ q8)]; rfl
    simp? [pV, f1]
    refine ⟨273, L.m_Store_is_fixed, noShadow _ (by decide), is_fixed_spec L I' hD ?_⟩
    rw [isFix_fixV]
    cases hv : fixV (dAt s.D p.2) with
    | none =>
      simp? [f2, e_sapp hua, e_app hua, Option.isSome_none, List.length_map]
      refine ⟨size4 (by decide), size5 (by omega), kn _ _ ⟨by simp [hd], ?_⟩⟩
      simp? [f1, f2, f3, f4]
      have e1 : lSum s.D (done ++ [p]) = lSum s.D done := by simp [lSum, hv]
      have e2 : lRea s.D (done ++ [p]) = lRea s.D done := by simp [lRea, hv]
      have e3 : lOpen s.D (done ++ [p]) = lOpen s.D done ++ [p] := by simp [lOpen, isFix_fixV, hv]
      rw [e1, e2, e3]
      refine ⟨rfl, ?_⟩
      funext z
      by_cases za : z = a
      · subst za
        rw [upd_same, upd_ne _ _ (Ne.symm nba.1), upd_same]; simp [pV]
      · rw [upd_ne _ _ za]
        by_cases zb : z = b
        · subst zb; rw [upd_same, upd_same]
        · rw [upd_ne _ _ zb, upd_ne _ _ zb, upd_ne _ _ za, upd_ne _ _ za]
    | some v =>
      obtain ⟨q, hq⟩ : ∃ q, dAt s.D p.2 = [q] ∧ q.1 = v := by
        revert hv
        match dAt s.D p.2 with
        | [] => intro hv; cases hv
        | [q] => intro hv; simp only [fixV] at hv; split at hv
                 · cases hv; exact ⟨q, rfl, rfl⟩
                 · cases hv
        | _ :: _ :: _ => intro hv; cases hv
      rw [hq.1] at hD
      simp? [f1, f3, f4]
      refine ⟨280, L.m_Store_value, noShadow _ (by decide), value_spec L I' hD ?_⟩
      simp? [f1, f2, f3, f4, hq.2]
      refine ⟨.inl hp2, ?_⟩
      simp? [f1, f2, f3, f4, e_sapp hub]
      refine ⟨280, L.m_Store_value, noShadow _ (by decide), value_spec L I' hD ?_⟩
      simp? [f1, f2, f3, f4, hq.2, e_app hub, List.length_map]
      refine ⟨size4 (by decide), size5 (by omega), kn _ _ ⟨by simp [hd], ?_⟩⟩
      simp? [f1, f2, f3, f4]
      have e1 : lSum s.D (done ++ [p]) = lSum s.D done + p.1 * v := by simp [lSum, hv]
      have e2 : lRea s.D (done ++ [p]) = lRea s.D done ++ [(p.2, v)] := by simp [lRea, hv]
      have e3 : lOpen s.D (done ++ [p]) = lOpen s.D done := by simp [lOpen, isFix_fixV, hv]
      rw [e1, e2, e3]
      refine ⟨by omega, ?_⟩
      rw [upd_upd]; simp [rV]
  · rintro done fr σ' ⟨hd, f1, f2, f3, f4, rfl⟩
    rw [List.append_nil] at hd
    subst hd
    have hub := upd_same (upd σ a (.list ((lOpen s.D parts).map pV))) b (O.list ((lRea s.D parts).map fun p => rV p.1 p.2))
    have hua : upd (upd σ a (.list ((lOpen s.D parts).map pV))) b (O.list ((lRea s.D parts).map fun p => rV p.1 p.2)) a = some (.list ((lOpen s.D parts).map pV)) := by rw [upd_ne _ _ (Ne.symm nba.1), upd_same]
    have hd1 : del (upd (upd σ a (.list ((lOpen s.D parts).map pV))) b (O.list ((lRea s.D parts).map fun p => rV p.1 p.2))) a = upd σ b (O.list ((lRea s.D parts).map fun p => rV p.1 p.2)) := by rw [del_ne nba.1, del_upd ha]
    have hub2 := upd_same σ b (O.list ((lRea s.D parts).map fun p => rV p.1 p.2))
    simp? [f2, f3, f4, e_frz hua, hd1, e_frz hub2, del_upd nba.2]
    exact ⟨size4 (by decide), h⟩
  · simp? [kV]
    simp [lSum, lOpen, lRea]
end
end PyW
namespace PyW
/-! ### how a row is made -/
noncomputable def dI (l : List (Nat × Int)) : List (Int × V) := l.map fun p => ((p.1 : Int), V.int p.2)
noncomputable def setN (l : List (Nat × Int)) (x : Nat) (v : Int) : List (Nat × Int) := if l.any (fun p => p.1 = x) then l.map (fun p => if p.1 = x then (p.1, v) else p) else l ++ [(x, v)]
theorem dI_set (l : List (Nat × Int)) (x : Nat) (v : Int) : setD (dI l) x (.int v) = dI (setN l x v) := by
  have e : (dI l).any (fun p => decide (p.1 = (x : Int))) = l.any (fun p => decide (p.1 = x)) := by
    unfold dI; rw [List.any_map]; congr 1; funext p
    by_cases h : p.1 = x
    · simp [h]
    · have : ¬ (p.1 : Int) = (x : Int) := by omega
      simp [h, this]
  unfold setD setN
  rw [e]
  split
  · unfold dI
    simp only [List.map_map]
    apply List.map_congr_left
    intro p _
    by_cases h : p.1 = x
    · simp [h]
    · have : ¬ (p.1 : Int) = (x : Int) := by omega
      simp [h, this]
  · simp [dI]
theorem dI_lookup (x : Nat) : ∀ l : List (Nat × Int), (dI l).lookup (x : Int) = (l.lookup x).map V.int
  | [] => rfl
  | p :: l => by
    have ih := dI_lookup x l
    unfold dI at ih ⊢
    by_cases h : x = p.1
    · subst h; obtain ⟨p1, p2⟩ := p; simp
    · have h1 : ((x : Int) == (p.1 : Int)) = false := by rw [beq_eq_false_iff_ne]; omega
      have h2 : (x == p.1) = false := by simpa using h
      obtain ⟨p1, p2⟩ := p
      simp only [List.map_cons, List.lookup_cons, h1, h2]
      exact ih
theorem setN_lookup (v : Int) (x y : Nat) : ∀ l : List (Nat × Int), (setN l x v).lookup y = if y = x then some v else l.lookup y := by
  intro l
  unfold setN
  split
  · rename_i h
    induction l with
    | nil => simp at h
    | cons p l ih =>
      obtain ⟨p1, p2⟩ := p
      by_cases hp : p1 = x
      · subst hp
        by_cases hy : y = p1
        · subst hy; simp
        · have h2 : (y == p1) = false := by simpa using hy
          simp only [List.map_cons, if_true, List.lookup_cons, h2, if_neg hy]
          clear ih h
          induction l with
          | nil => rfl
          | cons q l ih =>
            obtain ⟨q1, q2⟩ := q
            by_cases hq : q1 = p1
            · subst hq; simp only [List.map_cons, if_true, List.lookup_cons, h2]; exact ih
            · simp only [List.map_cons, if_neg hq, List.lookup_cons]
              cases e : y == q1 <;> simp [ih]
      · have h' : l.any (fun p => decide (p.1 = x)) = true := by simpa [hp] using h
        have ih := ih h'
        simp only [List.map_cons, if_neg hp, List.lookup_cons]
        cases e : y == p1 with
        | true =>
          have : y = p1 := by simpa using e
          subst this
          rw [if_neg hp]
        | false => exact ih
  · rename_i h
    rw [List.lookup_append]
    by_cases hy : y = x
    · subst hy
      have : l.lookup y = none := by
        induction l with
        | nil => rfl
        | cons p l ih =>
          obtain ⟨p1, p2⟩ := p
          simp only [List.any_cons, Bool.or_eq_true, decide_eq_true_eq, not_or] at h
          have h2 : (y == p1) = false := by rw [beq_eq_false_iff_ne]; exact Ne.symm h.1
          simp only [List.lookup_cons, h2]; exact ih h.2
      simp [this]
    · have h2 : (y == x) = false := by simpa using hy
      simp [List.lookup_cons, h2, hy]
theorem setN_keys (l : List (Nat × Int)) (x : Nat) (v : Int) : (setN l x v).map (·.1) = if x ∈ l.map (·.1) then l.map (·.1) else l.map (·.1) ++ [x] := by
  have e : l.any (fun p => decide (p.1 = x)) = true ↔ x ∈ l.map (·.1) := by simp
  unfold setN
  by_cases h : x ∈ l.map (·.1)
  · rw [if_pos (e.mpr h), if_pos h, List.map_map]
    apply List.map_congr_left
    intro p _
    by_cases hp : p.1 = x <;> simp [hp]
  · rw [if_neg (fun q => h (e.mp q)), if_neg h]; simp
noncomputable def accN (terms : List (Int × Nat)) : List (Nat × Int) := terms.foldl (fun l p => setN l p.2 ((l.lookup p.2).getD 0 + p.1)) []
theorem times_snoc (terms : List (Int × Nat)) (p : Int × Nat) (x : Nat) : times (terms ++ [p]) x = times terms x + if p.2 = x then p.1 else 0 := by
  unfold times
  rw [List.filter_append, List.map_append, List.sum_append]
  by_cases h : p.2 = x <;> simp [h]
theorem accN_snoc (terms : List (Int × Nat)) (p : Int × Nat) : accN (terms ++ [p]) = setN (accN terms) p.2 (((accN terms).lookup p.2).getD 0 + p.1) := by simp [accN, List.foldl_append]
theorem snocInd {α : Type} {P : List α → Prop} (h0 : P []) (h1 : ∀ l a, P l → P (l ++ [a])) : ∀ l, P l := by
  intro l
  rw [← List.reverse_reverse l]
  generalize l.reverse = r
  induction r with
  | nil => exact h0
  | cons a r ih => rw [List.reverse_cons]; exact h1 _ _ ih
theorem accN_times (x : Nat) : ∀ terms : List (Int × Nat), ((accN terms).lookup x).getD 0 = times terms x := by
  refine snocInd rfl fun terms p ih => ?_
  rw [accN_snoc, setN_lookup, times_snoc]
  by_cases h : x = p.2
  · subst h; simp [ih]
  · rw [if_neg h, if_neg (Ne.symm h), ih]; omega
theorem accN_mem : ∀ (terms : List (Int × Nat)) (x : Nat), x ∈ (accN terms).map (·.1) ↔ x ∈ terms.map (·.2) := by
  refine snocInd (fun x => by simp [accN]) fun terms p ih x => ?_
  rw [accN_snoc, setN_keys]
  by_cases h : p.2 ∈ (accN terms).map (·.1)
  · rw [if_pos h, ih]
    simp only [List.map_append, List.map_cons, List.map_nil, List.mem_append, List.mem_singleton]
    constructor
    · exact .inl
    · rintro (q | q)
      · exact q
      · rw [q]; exact (ih _).mp h
  · rw [if_neg h]
    simp only [List.map_append, List.map_cons, List.map_nil, List.mem_append, List.mem_singleton, ih]
theorem accN_nodup : ∀ terms : List (Int × Nat), ((accN terms).map (·.1)).Nodup := by
  refine snocInd (by simp [accN]) fun terms p ih => ?_
  rw [accN_snoc, setN_keys]
  split
  · exact ih
  · rename_i h
    rw [List.nodup_append]
    exact ⟨ih, by simp, fun a ha b hb => by rw [List.mem_singleton.mp hb]; exact fun q => h (q ▸ ha)⟩
theorem accN_len : ∀ terms : List (Int × Nat), (accN terms).length ≤ terms.length := by
  refine snocInd (by simp [accN]) fun terms p ih => ?_
  have := congrArg List.length (setN_keys (accN terms) p.2 (((accN terms).lookup p.2).getD 0 + p.1))
  rw [accN_snoc]
  simp only [List.length_map] at this
  rw [this]
  split <;> simp <;> omega
theorem nodup_lt {l : List Int} (h1 : l.Nodup) (h2 : l.Pairwise (· ≤ ·)) : l.Pairwise (· < ·) := by
  induction l with
  | nil => exact .nil
  | cons a l ih =>
    rw [List.pairwise_cons] at h2 ⊢
    rw [List.nodup_cons] at h1
    exact ⟨fun b hb => by have := h2.1 b hb; have : a ≠ b := fun q => h1.1 (q ▸ hb); omega, ih h1.2 h2.2⟩
theorem keys_sorted (terms : List (Int × Nat)) (m : Nat) (h : ∀ p ∈ terms, p.2 < m) : sortZ ((accN terms).map fun p => (p.1 : Int)) = ((List.range m).filter fun x => decide (x ∈ terms.map (·.2))).map fun (x : Nat) => (x : Int) := by
  have nd1 : ((accN terms).map fun p => (p.1 : Int)).Nodup := by
    have := accN_nodup terms
    have e : ((accN terms).map fun p => (p.1 : Int)) = ((accN terms).map (·.1)).map fun (x : Nat) => (x : Int) := by rw [List.map_map]; rfl
    rw [e]
    exact List.Pairwise.map _ (fun a b h q => h (by omega)) this
  have nd2 : (((List.range m).filter fun x => decide (x ∈ terms.map (·.2))).map fun (x : Nat) => (x : Int)).Nodup :=
    List.Pairwise.map _ (fun a b h q => h (by omega)) (List.Pairwise.filter _ List.nodup_range)
  refine pw_unique ((sortZ_perm _).trans ?_) (sortZ_pw _) ?_
  · rw [List.perm_ext_iff_of_nodup nd1 nd2]
    intro z
    constructor
    · intro hz
      obtain ⟨p, hp, rfl⟩ := List.mem_map.mp hz
      have : p.1 ∈ terms.map (·.2) := (accN_mem terms p.1).mp (List.mem_map_of_mem hp)
      refine List.mem_map.mpr ⟨p.1, List.mem_filter.mpr ⟨?_, by simpa using this⟩, rfl⟩
      obtain ⟨q, hq, e⟩ := List.mem_map.mp this
      rw [List.mem_range, ← e]; exact h q hq
    · intro hz
      obtain ⟨x, hx, rfl⟩ := List.mem_map.mp hz
      have hx := (List.mem_filter.mp hx).2
      have := (accN_mem terms x).mpr (by simpa using hx)
      obtain ⟨p, hp, e⟩ := List.mem_map.mp this
      exact List.mem_map.mpr ⟨p, hp, by rw [e]⟩
  · rw [List.pairwise_map]
    exact (List.pairwise_lt_range.filter _).imp fun h => by omega
theorem times_none {terms : List (Int × Nat)} {x : Nat} (h : x ∉ terms.map (·.2)) : times terms x = 0 := by
  unfold times
  have : (terms.filter fun p => decide (p.2 = x)) = [] := by
    rw [List.filter_eq_nil_iff]; intro p hp q
    exact h (List.mem_map.mpr ⟨p, hp, by simpa using q⟩)
  rw [this]; rfl
theorem Pm_keys (terms : List (Int × Nat)) (m : Nat) : ((List.range m).filter fun x => decide (x ∈ terms.map (·.2))).filterMap (fun x => if times terms x ≠ 0 then some (times terms x, x) else none) = Pm terms m := by
  unfold Pm
  generalize List.range m = r
  induction r with
  | nil => rfl
  | cons x r ih =>
    by_cases h : x ∈ terms.map (·.2)
    · rw [List.filter_cons, if_pos (by simpa using h), List.filterMap_cons, List.filterMap_cons, ih]
    · rw [List.filter_cons, if_neg (by simpa using h), List.filterMap_cons, times_none h]
      simpa using ih
theorem zip_pV : ∀ terms : List (Int × Nat), zipV (terms.map fun p => V.int p.1) (terms.map fun p => natV p.2) = terms.map pV
  | [] => rfl
  | p :: t => by simp only [List.map_cons, zipV, zip_pV t]; rfl
section
variable {c : Cx} (L : L2 c) {n : Nat} {σ : Sg} {Q : V → Sg → Prop} {A : SA} {s : SS} {k : Nat}
include L
theorem row_spec {kind : String} {terms : List (Int × Nat)} {c0 : Int} {m : Nat} (hm : ∀ p ∈ terms, p.2 < m) (hz : terms.length < 64)
    (h : ∀ r σ', RIs σ' r kind (Pm terms m) c0 → σ r = none → Only [] σ σ' → Q (.obj "Row" r) σ') : CallV c (n + 2) (.ref 100) σ [.str kind, .list (terms.map fun p => V.int p.1), .list (terms.map fun p => natV p.2), .int c0] Q := by
  refine L.c_Row fun d hd => ?_
  refine L.f_Row_init rfl ?_
  have d0 : upd σ d (O.ns []) d = some (.ns []) := upd_same _ _ _
  simp? [b_Row_init, p_Row_init, e_sattr d0, fl_a, upd_upd]
  refine ⟨by simp, fun a ha => ?_⟩
  obtain ⟨nad, za⟩ := none_upd ha
  generalize hs1 : upd σ d (O.ns [("kind", V.str kind)]) = σ1 at *
  have d1 : σ1 d = some (.ns [("kind", V.str kind)]) := by rw [← hs1, upd_same]
  rw [zip_pV]
  refine loopS_inv pV (fun done rest fr σ' => terms = done ++ rest ∧ fr "self" = some (.obj "Row" d) ∧ fr "c" = some (.int c0) ∧ fr "found" = some (.ref a) ∧ σ' = upd σ1 a (.dict (dI (accN done)))) ?_ ?_ terms [] _ _ ?_
  · rintro done p rest fr σ' K ⟨he, f1, f2, f3, rfl⟩ kn kr
    have hu := upd_same σ1 a (O.dict (dI (accN done)))
    have l1 := accN_len done
    have len := congrArg List.length he
    simp only [List.length_append, List.length_cons] at len
    have gl : ((dI (accN done)).lookup (p.2 : Int)).getD (.int 0) = .int (((accN done).lookup p.2).getD 0) := by
      rw [dI_lookup]; cases (accN done).lookup p.2 <;> rfl
    simp? [pV, f3, e_sget hu, e_get hu, gl, e_setd hu, dI_set, upd_upd]
    refine ⟨size5 (by simp [dI]; omega), kn _ _ ⟨by simp [he], ?_⟩⟩
    simp? [f1, f2, f3, accN_snoc]
  · rintro done fr σ' ⟨he, f1, f2, f3, rfl⟩
    rw [List.append_nil] at he
    rw [← he]
    have hu := upd_same σ1 a (O.dict (dI (accN terms)))
    have l1 := accN_len terms
    have kk : (dI (accN terms)).map (·.1) = (accN terms).map fun p => (p.1 : Int) := by unfold dI; rw [List.map_map]; rfl
    simp? [f1, f2, f3, e_srtd hu, kk, keys_sorted terms m hm]
    refine ⟨by simp [dI]; omega, ?_⟩
    rw [show ∀ l : List Nat, (l.map fun (x : Nat) => (x : Int)).map V.int = l.map fun (x : Nat) => V.int (x : Int) from fun l => by rw [List.map_map]; rfl]
    refine loopC_pure (α := Nat) (fun x => V.int (x : Int)) (fun x => (if times terms x ≠ 0 then some (times terms x, x) else none).map pV) _ _ [] (fun x hx K' hK => ?_) ?_
    · have hx' : x ∈ terms.map (·.2) := by simpa using (List.mem_filter.mp hx).2
      obtain ⟨v, hv⟩ : ∃ v, (accN terms).lookup x = some v := by
        have := (accN_mem terms x).mpr hx'
        cases e : (accN terms).lookup x with
        | some v => exact ⟨v, rfl⟩
        | none =>
          rw [List.lookup_eq_none_iff] at e
          obtain ⟨p, hp, q⟩ := List.mem_map.mp this
          have := e p hp
          simp [q] at this
      have ht : times terms x = v := by rw [← accN_times, hv]; rfl
      have dl : (dI (accN terms)).lookup (x : Int) = some (.int v) := by rw [dI_lookup, hv]; rfl
      simp? [f3, o_idxd hu, dl]
      rw [ht] at hK
      by_cases h0 : v = 0
      · simp? [f3, h0]
        simpa [h0] using hK
      · simp? [f3, h0, o_idxd hu, dl]
        exact ⟨size4 (by decide), by simpa [h0, pV] using hK⟩
    · have e : ((List.range m).filter fun x => decide (x ∈ terms.map (·.2))).filterMap (fun x => (if times terms x ≠ 0 then some (times terms x, x) else none).map pV) = (Pm terms m).map pV := by
        rw [← Pm_keys, List.map_filterMap]
      rw [e]
      have s1 : upd σ1 a (O.dict (dI (accN terms))) d = some (.ns [("kind", V.str kind)]) := by rw [upd_ne _ _ (Ne.symm nad)]; exact d1
      have s2 : ∀ o, upd (upd σ1 a (O.dict (dI (accN terms)))) d o d = some o := fun o => upd_same _ _ _
      simp? [f1, f2, f3, e_sattr s1, e_sattr (s2 _), fl_b, fl_c, upd_upd]
      refine ⟨by simp, by simp, h d _ ⟨by rw [upd_same]⟩ hd fun b o eb _ => ?_⟩
      have q1 : b ≠ d := fun q => by rw [q, hd] at eb; cases eb
      have q2 : b ≠ a := fun q => by rw [q, za] at eb; cases eb
      rw [upd_ne _ _ q1, upd_ne _ _ q2, ← hs1, upd_ne _ _ q1]; exact eb
  · simp? [kV]
    simp [accN, dI]
end
end PyW
namespace PyW
theorem times_fm (t : Nat → Int) (x : Nat) : ∀ l : List Nat, l.Nodup → times (l.filterMap fun y => if t y ≠ 0 then some (t y, y) else none) x = if x ∈ l then t x else 0
  | [], _ => rfl
  | y :: l, h => by
    rw [List.nodup_cons] at h
    have ih := times_fm t x l h.2
    rw [List.filterMap_cons]
    by_cases hy : t y ≠ 0
    · rw [if_pos hy]
      have e : ∀ (p : Int × Nat) (r : List (Int × Nat)), times (p :: r) x = (if p.2 = x then p.1 else 0) + times r x := fun p r => by
        unfold times; rw [List.filter_cons]; by_cases q : p.2 = x <;> simp [q]
      rw [e, ih]
      by_cases q : y = x
      · subst q; simp [h.1]
      · simp [q, Ne.symm q]
    · rw [if_neg hy]
      have hy : t y = 0 := by omega
      rw [ih]
      by_cases q : x = y
      · subst q; simp [h.1, hy]
      · simp [q]
theorem times_Pm (terms : List (Int × Nat)) {m x : Nat} (h : x < m) : times (Pm terms m) x = times terms x := by
  unfold Pm
  rw [times_fm _ _ _ List.nodup_range, if_pos (List.mem_range.mpr h)]
theorem times_neg (terms : List (Int × Nat)) (x : Nat) : times (terms.map fun p => (-p.1, p.2)) x = - times terms x := by
  unfold times
  induction terms with
  | nil => rfl
  | cons p t ih =>
    simp only [List.map_cons, List.filter_cons]
    by_cases h : p.2 = x
    · simp only [h, decide_true, if_true, List.map_cons, List.sum_cons, ih]; omega
    · simp only [h, decide_false, Bool.false_eq_true, if_false, ih]
theorem Pm_congr {t1 t2 : List (Int × Nat)} {m : Nat} (h : ∀ x, x < m → times t1 x = times t2 x) : Pm t1 m = Pm t2 m := by
  unfold Pm
  have go : ∀ l : List Nat, (∀ x ∈ l, x < m) → (l.filterMap fun x => if times t1 x ≠ 0 then some (times t1 x, x) else none) = l.filterMap fun x => if times t2 x ≠ 0 then some (times t2 x, x) else none := by
    intro l
    induction l with
    | nil => intro _; rfl
    | cons y l ih =>
      intro hl
      rw [List.filterMap_cons, List.filterMap_cons, ih fun x hx => hl x (.tail _ hx), h y (hl y (.head _))]
  exact go _ fun x hx => List.mem_range.mp hx
theorem Pm_mem {terms : List (Int × Nat)} {m : Nat} {p : Int × Nat} (h : p ∈ Pm terms m) : p.2 < m ∧ p.1 = times terms p.2 ∧ p.1 ≠ 0 := by
  unfold Pm at h
  rw [List.mem_filterMap] at h
  obtain ⟨x, hx, e⟩ := h
  split at e
  · rename_i q
    cases e
    exact ⟨List.mem_range.mp hx, rfl, q⟩
  · cases e
theorem Pm_len (terms : List (Int × Nat)) (m : Nat) : (Pm terms m).length ≤ m := by
  unfold Pm
  have := List.length_filterMap_le (fun x => if times terms x ≠ 0 then some (times terms x, x) else none) (List.range m)
  rwa [List.length_range] at this
section
variable {c : Cx} (L : L2 c) {n : Nat} {σ : Sg} {Q : V → Sg → Prop} {A : SA} {s : SS} {k : Nat}
include L
theorem turned_spec {r : Addr} {kind : String} {terms : List (Int × Nat)} {m : Nat} {c0 : Int} (R : RIs σ r kind (Pm terms m) c0) (hm : m < 64)
    (h1 : kind = "linear_le" → ∀ r' σ', RIs σ' r' "linear_le" (Pm (terms.map fun p => (-p.1, p.2)) m) (-c0 - 1) → σ r' = none → Only [] σ σ' → Q (.obj "Row" r') σ')
    (h2 : kind ≠ "linear_le" → ∀ r' σ', RIs σ' r' (if kind = "linear_eq" then "linear_ne" else "linear_eq") (Pm terms m) c0 → σ r' = none → Only [] σ σ' → Q (.obj "Row" r') σ') :
    CallV c (n + 3) (.ref 38) σ [.obj "Row" r] Q := by
  refine L.f_Row_turned rfl ?_
  have hz := Pm_len terms m
  have map1 : ∀ l : List (Int × Nat), l.filterMap (fun p => some (V.int p.1)) = l.map fun p => V.int p.1 := fun l => by induction l with | nil => rfl | cons a l ih => simp [ih]
  have map2 : ∀ l : List (Int × Nat), l.filterMap (fun p => some (natV p.2)) = l.map fun p => natV p.2 := fun l => by induction l with | nil => rfl | cons a l ih => simp [ih]
  simp? [b_Row_turned, p_Row_turned, o_attr R.ns, fl_a, fl_b, fl_c]
  refine loopC_pure pV (fun p => some (V.int p.1)) _ _ [] (fun p hp K' h => ?_) ?_
  · simp? [pV]; exact h
  · simp? [map1, o_attr R.ns, fl_a, fl_b, fl_c]
    refine loopC_pure pV (fun p => some (natV p.2)) _ _ [] (fun p hp K' h => ?_) ?_
    · simp? [pV]; exact h
    · simp? [map2, o_attr R.ns, fl_a, fl_b, fl_c]
      refine ⟨size4 (by decide), ?_⟩
      by_cases hk : kind = "linear_le"
      · simp? [hk, o_attr R.ns, fl_a, fl_b, fl_c]
        refine ⟨_, L.n_Row, ?_⟩
        refine loopC_pure (α := Int × Nat) (fun p => V.int p.1) (fun p => some (V.int (-p.1))) _ _ [] (fun p hp K' h => ?_) ?_
        · simp? [kV]; exact h
        · have e1 : (Pm terms m).filterMap (fun p => some (V.int (-p.1))) = ((Pm terms m).map fun p => (-p.1, p.2)).map fun p => V.int p.1 := by
            generalize Pm terms m = l; induction l with | nil => rfl | cons a l ih => simp [ih]
          have e2 : (Pm terms m).map (fun p => natV p.2) = ((Pm terms m).map fun p => (-p.1, p.2)).map fun p => natV p.2 := by rw [List.map_map]; rfl
          simp? [e1, o_attr R.ns, fl_c]
          rw [e2]
          refine row_spec (m := m) L (fun p hp => ?_) (by simp; omega) fun r' σ' R' z o => h1 hk r' σ' ?_ z o
          · obtain ⟨q, hq, rfl⟩ := List.mem_map.mp hp; exact (Pm_mem hq).1
          · rw [Pm_congr (t2 := terms.map fun p => (-p.1, p.2))] at R'
            · exact R'
            · intro x hx; rw [times_neg, times_neg, times_Pm _ hx]
      · simp? [hk, o_attr R.ns, fl_a, fl_b, fl_c]
        refine ⟨_, L.n_Row, ?_⟩
        have fin : ∀ kd, kd = (if kind = "linear_eq" then "linear_ne" else "linear_eq") → CallV c (n + 2) (.ref 100) σ [.str kd, .list ((Pm terms m).map fun p => V.int p.1), .list ((Pm terms m).map fun p => natV p.2), .int c0] Q := by
          rintro kd rfl
          refine row_spec (m := m) L (fun p hp => (Pm_mem hp).1) (by omega) fun r' σ' R' z o => h2 hk r' σ' ?_ z o
          rw [Pm_congr (t2 := terms) fun x hx => times_Pm _ hx] at R'
          exact R'
        by_cases hq : kind = "linear_eq"
        · simp? [hq, o_attr R.ns, fl_c]
          exact fin _ (by simp [hq])
        · simp? [hq, o_attr R.ns, fl_c]
          exact fin _ (by simp [hq])
theorem part_spec (I : SIs σ A s k) (hk : k ≤ 900) {r : Addr} {kind : String} {parts : List (Int × Nat)} {c0 : Int} (R : RIs σ r kind parts c0) (hr : r ∉ A.l) (hx : ∀ p ∈ parts, p.2 < s.D.length ∧ p.1 ≠ 0 ∧ p.1.natAbs < 2 ^ 30) (hz : parts.length ≤ 900)
    (hd : ∀ x, x < s.D.length → 2 * (dAt s.D x).length ≤ 1000) (hn : ∀ x v, x < s.D.length → isFix (dAt s.D x) = false → struckD "!=" v (dAt s.D x) ≠ [])
    (h0 : lOpen s.D parts = [] → c0 - lSum s.D parts = 0 → ∀ σ' cl, SIs σ' A { s with f := true, cl := cl } k → Only A.l σ σ' → Q (.bool false) σ')
    (h1 : ∀ a x, lOpen s.D parts = [(a, x)] → (c0 - lSum s.D parts).fmod a = 0 → ∀ σ' s', SIs σ' A s' (k + 1) → Only A.l σ σ' → Struck s s' x (dAt s.D x) (struckD "!=" ((c0 - lSum s.D parts).fdiv a) (dAt s.D x)) → Q (.bool true) σ')
    (h2 : ¬ (lOpen s.D parts = [] ∧ c0 - lSum s.D parts = 0) → (∀ a x, lOpen s.D parts = [(a, x)] → (c0 - lSum s.D parts).fmod a ≠ 0) → Q (.bool true) σ) : CallV c (n + 6) (.ref 78) σ [.obj "Row" r, .obj "Store" A.d, .tup []] Q := by
  refine L.f_Row_part rfl ?_
  have I0 := I.ns
  rw [nsOf] at I0
  have noR : ∀ y : String, ("kind" == y || "parts" == y || "c" == y) = false → ∃ l, σ r = some (.ns l) ∧ l.lookup y = none := fun y hy => by
    refine ⟨_, R.ns, ?_⟩
    simp only [Bool.or_eq_false_iff] at hy
    obtain ⟨⟨q1, q2⟩, q3⟩ := hy
    have sw : ∀ z : String, (z == y) = false → (y == z) = false := fun z h => by
      rw [beq_eq_false_iff_ne] at h ⊢; exact Ne.symm h
    rw [lk_ne _ _ (sw _ q1), lk_ne _ _ (sw _ q2), lk_ne _ _ (sw _ q3)]; rfl
  have noS : ∀ y : String, ("domains" == y || "firsts" == y || "trail" == y || "marks" == y || "news" == y || "speaker" == y || "is_failed" == y || "clash" == y) = false → ∃ l, σ A.d = some (.ns l) ∧ l.lookup y = none := fun y hy => by
    refine ⟨_, I0, ?_⟩
    simp only [Bool.or_eq_false_iff] at hy
    obtain ⟨⟨⟨⟨⟨⟨⟨q1, q2⟩, q3⟩, q4⟩, q5⟩, q6⟩, q7⟩, q8⟩ := hy
    have sw : ∀ z : String, (z == y) = false → (y == z) = false := fun z h => by
      rw [beq_eq_false_iff_ne] at h ⊢; exact Ne.symm h
    rw [lk_ne _ _ (sw _ q1), lk_ne _ _ (sw _ q2), lk_ne _ _ (sw _ q3), lk_ne _ _ (sw _ q4), lk_ne _ _ (sw _ q5), lk_ne _ _ (sw _ q6), lk_ne _ _ (sw _ q7), lk_ne _ _ (sw _ q8)]; rfl
  simp? [b_Row_part, p_Row_part]
  refine ⟨71, L.m_Row_last, noR _ (by decide), (last_spec (n := 0) L I R hr (fun p hp => ⟨(hx p hp).1, by have := (hx p hp).2.2; omega⟩) hz ?_).more (by omega)⟩
  have l1 : (lRea s.D parts).length ≤ parts.length := List.length_filterMap_le _ _
  simp? [List.length_map]
  have part3 : (∀ a x, lOpen s.D parts = [(a, x)] → (c0 - lSum s.D parts).fmod a ≠ 0) → ¬ (lOpen s.D parts = [] ∧ c0 - lSum s.D parts = 0) → Q (.bool true) σ := fun a b => h2 b a
  by_cases c1 : lOpen s.D parts = []
  · simp? [c1, List.length_nil, Int.ofNat_zero, Int.natCast_zero, show ((0 : Nat) : Int) = 0 from rfl]
    by_cases c2 : c0 - lSum s.D parts = 0
    · simp? [c2]
      refine ⟨322, L.m_Store_fail, noS _ (by decide), by first | exact size4 (by omega) | (simp only [List.length_map]; exact size4 (by omega)), ?_⟩
      refine (fail_spec (n := 0) L I fun σ' I' o => ?_).more (by omega)
      exact h0 c1 c2 σ' _ I' o
    · simp? [c2, show ¬ ((0 : Int) = 1) from by omega]
      exact part3 (fun a x e => by rw [c1] at e; cases e) fun q => c2 q.2
  · have c1' : ¬ (((lOpen s.D parts).length : Int) = 0) := by
      intro q; exact c1 (List.length_eq_zero_iff.mp (by omega))
    simp? [c1']
    by_cases c3 : ((lOpen s.D parts).length : Int) = 1
    · obtain ⟨p, hp⟩ : ∃ p, lOpen s.D parts = [p] := by
        match lOpen s.D parts, c3 with
        | [p], _ => exact ⟨p, rfl⟩
        | [], h => simp at h
        | _ :: _ :: _, h => simp only [List.length_cons] at h; omega
      have hmem : p ∈ parts := by
        have : p ∈ lOpen s.D parts := by rw [hp]; simp
        exact (List.mem_filter.mp this).1
      have hfx : isFix (dAt s.D p.2) = false := by
        have : p ∈ lOpen s.D parts := by rw [hp]; simp
        simpa using (List.mem_filter.mp this).2
      obtain ⟨q1, q2, q3⟩ := hx p hmem
      simp? [c3, hp, List.map_cons, List.map_nil, pV]
      refine ⟨q2, ?_⟩
      by_cases c4 : (c0 - lSum s.D parts).fmod p.1 = 0
      · simp? [c4]
        refine ⟨308, L.m_Store_strike, noS _ (by decide), ⟨q2, q3⟩, size4 (by decide), by first | exact size4 (by omega) | (simp only [List.length_map]; exact size4 (by omega)), ?_⟩
        have hD : s.D[p.2]? = some (dAt s.D p.2) := by rw [dAt, List.getD_eq_getElem?_getD, List.getElem?_eq_getElem q1]; rfl
        exact strike_spec L I hk hD (hd _ q1) (hn _ _ q1 hfx) fun σ' s' I' o st => h1 p.1 p.2 hp c4 σ' s' I' o st
      · simp? [c4]
        exact part3 (fun a x e => by rw [hp] at e; cases e; exact c4) fun q => c1 q.1
    · simp? [c3]
      exact part3 (fun a x e => by rw [e] at c3; exact absurd rfl c3) fun q => c1 q.1
end
end PyW
namespace PyW
/-! ### the law's helpers -/
noncomputable def DIs (σ : Sg) (dk : Addr) (k : Nat) : Prop := ∃ (cells : List Int) (i : Nat), σ dk = some (.list [.list (cells.map .int), .int i]) ∧ i ≤ k
noncomputable def lV (l : List Int) : V := .list (l.map .int)
noncomputable def Rep (D : List (List (Int × Int))) (lots : List (List Int)) : Prop := D.length = lots.length ∧ ∀ x, x < lots.length → Can (dAt D x) ∧ valsD (dAt D x) = lots.getD x [] ∧ lots.getD x [] ≠ []
theorem pV_eq (p q : Int × Nat) : pyEq (pV p) (pV q) = decide (p = q) := by
  obtain ⟨a, b⟩ := p
  obtain ⟨a', b'⟩ := q
  simp only [pV, e_eqt, e_eqc, e_eqn, e_eqi, Bool.and_true, Prod.mk.injEq]
  by_cases h1 : a = a' <;> by_cases h2 : b = b'
  · simp [h1, h2]
  · have : ¬ (b : Int) = (b' : Int) := by omega
    simp [h1, h2, this]
  · simp [h1, h2]
  · simp [h1]
theorem pV_plain (n : Nat) (p : Int × Nat) : plain (n + 1) (pV p) := by simp [pV, plain, plains]
theorem int_plain (n : Nat) (i : Int) : plain n (.int i) := by rw [p_int]; trivial
theorem lV_plain (n : Nat) (l : List Int) : plain (n + 1) (lV l) := by rw [lV, p_list]; exact p_map (int_plain n) l
theorem lV_eq (l m : List Int) : pyEq (lV l) (lV m) = decide (l = m) := by rw [lV, lV, e_eql, e_eqm e_eqi]
theorem rngV0 (m : Nat) : rngV 0 (m : Int) = (List.range m).map fun (x : Nat) => V.int (x : Int) := by
  unfold rngV
  have : ((m : Int) - 0).toNat = m := by omega
  rw [this]
  apply List.map_congr_left; intro x _; simp
theorem ok0 {m : Nat} (h : m ≤ 1000) : okRange 0 (m : Int) := by unfold okRange; omega
noncomputable def PmL (terms : List (Int × Nat)) (l : List Nat) : List (Int × Nat) := l.filterMap fun x => if times terms x ≠ 0 then some (times terms x, x) else none
theorem PmL_snoc (terms : List (Int × Nat)) (l : List Nat) (x : Nat) : PmL terms (l ++ [x]) = PmL terms l ++ if times terms x ≠ 0 then [(times terms x, x)] else [] := by
  unfold PmL
  rw [List.filterMap_append]
  by_cases h : times terms x ≠ 0 <;> simp [h]
theorem lOpen_append (D : List (List (Int × Int))) (a b : List (Int × Nat)) : lOpen D (a ++ b) = lOpen D a ++ lOpen D b := by simp [lOpen]
theorem lSum_append (D : List (List (Int × Int))) (a b : List (Int × Nat)) : lSum D (a ++ b) = lSum D a + lSum D b := by simp [lSum]
theorem lRea_append (D : List (List (Int × Int))) (a b : List (Int × Nat)) : lRea D (a ++ b) = lRea D a ++ lRea D b := by simp [lRea]
theorem Rep.fix {D : List (List (Int × Int))} {lots : List (List Int)} (R : Rep D lots) {x : Nat} (hx : x < lots.length) : (isFix (dAt D x) = true ↔ (lots.getD x []).length = 1) ∧ ∀ v, lots.getD x [] = [v] → fixV (dAt D x) = some v := by
  obtain ⟨c, e, n⟩ := R.2 x hx
  have f := c.fixed
  rw [e] at f
  have key : isFix (dAt D x) = true ↔ ∃ v, dAt D x = [(v, v)] := by
    constructor
    · intro h
      revert h
      match dAt D x with
      | [] => intro h; cases h
      | [p] => intro h; simp only [isFix, decide_eq_true_eq] at h; exact ⟨p.1, by rw [show p = (p.1, p.1) from Prod.ext rfl h.symm]⟩
      | _ :: _ :: _ => intro h; cases h
    · rintro ⟨v, h⟩; rw [h]; simp [isFix]
  refine ⟨key.trans f, fun v hv => ?_⟩
  obtain ⟨w, hw⟩ := f.mpr (by rw [hv]; rfl)
  rw [hw, vals_one, hv] at e
  cases e
  rw [hw]; simp [fixV]
theorem Rep.nofix {D : List (List (Int × Int))} {lots : List (List Int)} (R : Rep D lots) {x : Nat} (hx : x < lots.length) (h : (lots.getD x []).length ≠ 1) : isFix (dAt D x) = false ∧ fixV (dAt D x) = none := by
  have f := (R.fix hx).1
  have e : isFix (dAt D x) = false := by
    cases q : isFix (dAt D x) with
    | false => rfl
    | true => exact absurd (f.mp q) h
  refine ⟨e, ?_⟩
  rw [isFix_fixV] at e
  cases q : fixV (dAt D x) with
  | none => rfl
  | some v => rw [q] at e; cases e
theorem Rep.one {D : List (List (Int × Int))} {lots : List (List Int)} (R : Rep D lots) {x : Nat} (hx : x < lots.length) (h : (lots.getD x []).length = 1) : ∃ v, lots.getD x [] = [v] ∧ isFix (dAt D x) = true ∧ fixV (dAt D x) = some v := by
  obtain ⟨v, hv⟩ := List.length_eq_one_iff.mp h
  exact ⟨v, hv, (R.fix hx).1.mpr h, (R.fix hx).2 v hv⟩
theorem lot_at {lots : List (List Int)} {x : Nat} (hx : x < lots.length) : (lots.map lV)[x]? = some (lV (lots.getD x [])) := by
  rw [List.getElem?_map, List.getElem?_eq_getElem hx, List.getD_eq_getElem?_getD, List.getElem?_eq_getElem hx]; rfl
theorem rea_keys {D : List (List (Int × Int))} {lots : List (List Int)} (R : Rep D lots) {terms : List (Int × Nat)} :
    (lRea D (Pm terms lots.length)).map (·.1) = (List.range lots.length).filter fun x => decide ((lots.getD x []).length = 1 ∧ times terms x ≠ 0) := by
  have go : ∀ l : List Nat, (∀ x ∈ l, x < lots.length) → (lRea D (PmL terms l)).map (·.1) = l.filter fun x => decide ((lots.getD x []).length = 1 ∧ times terms x ≠ 0) := by
    intro l
    induction l with
    | nil => intro _; rfl
    | cons x l ih =>
      intro hl
      have ih := ih fun y hy => hl y (.tail _ hy)
      have hx := hl x (.head _)
      have e : PmL terms (x :: l) = (if times terms x ≠ 0 then [(times terms x, x)] else []) ++ PmL terms l := by
        unfold PmL; rw [List.filterMap_cons]; by_cases h : times terms x ≠ 0 <;> simp [h]
      rw [e, lRea_append, List.map_append, ih, List.filter_cons]
      by_cases h : times terms x ≠ 0
      · rw [if_pos h]
        by_cases h1 : (lots.getD x []).length = 1
        · obtain ⟨v, _, _, q⟩ := R.one hx h1
          rw [if_pos (by simpa using ⟨h1, h⟩)]
          simp [lRea, q]
        · rw [if_neg (by simp; intro q; exact absurd q h1)]
          simp [lRea, (R.nofix hx h1).2]
      · rw [if_neg h, if_neg (by simp; intro _; simpa using h)]
        rfl
  exact go _ fun x hx => List.mem_range.mp hx
theorem rea_mem {D : List (List (Int × Int))} {lots : List (List Int)} (R : Rep D lots) {terms : List (Int × Nat)} {p : Nat × Int} (h : p ∈ lRea D (Pm terms lots.length)) : p.1 < lots.length ∧ lots.getD p.1 [] = [p.2] := by
  unfold lRea at h
  obtain ⟨q, hq, e⟩ := List.mem_filterMap.mp h
  obtain ⟨hx, _⟩ := Pm_mem hq
  cases z : fixV (dAt D q.2) with
  | none => rw [z] at e; cases e
  | some v =>
    rw [z] at e
    cases e
    refine ⟨hx, ?_⟩
    by_cases h1 : (lots.getD q.2 []).length = 1
    · obtain ⟨w, hw, _, q2⟩ := R.one hx h1
      rw [q2] at z; cases z; exact hw
    · rw [(R.nofix hx h1).2] at z; cases z
section
variable {c : Cx} (L : L2 c) {n : Nat} {σ : Sg} {Q : V → Sg → Prop} {A : SA} {s : SS} {k : Nat}
include L
theorem deal_spec {dk : Addr} {w : Int} (hD : DIs σ dk k) (hk : k ≤ 1000) (hw : 0 < w) (h : ∀ v σ', (0 ≤ v ∧ v < w) → DIs σ' dk (k + 1) → Only [dk] σ σ' → Q (.int v) σ') : CallV c (n + 1) (.ref 364) σ [.ref dk, .int w] Q := by
  refine L.f_law_deal rfl ?_
  obtain ⟨cells, i, hd, hi⟩ := hD
  have hu := upd_same σ dk (O.list [.list (cells.map .int), .int ((i : Int) + 1)])
  have ix : idxOf [V.list (cells.map .int), .int i] 1 = some 1 := rfl
  have s1 : [V.list (cells.map .int), .int i].set 1 (.int ((i : Int) + 1)) = [.list (cells.map .int), .int ((i : Int) + 1)] := rfl
  simp? [b_law_deal, p_law_deal, o_idxr hd, o_setl hd, ix, s1, o_idxr hu, List.length_map]
  have D' : DIs (upd σ dk (O.list [.list (cells.map .int), .int ((i : Int) + 1)])) dk (k + 1) := ⟨cells, i + 1, by rw [upd_same]; simp, by omega⟩
  have O' : Only [dk] σ (upd σ dk (O.list [.list (cells.map .int), .int ((i : Int) + 1)])) := Only.upd (by simp) _
  by_cases hc : (i : Int) + 1 ≤ (cells.length : Int)
  · have e1 : (i : Int) + 1 - 1 = (i : Int) := by omega
    have hi' : i < cells.length := by omega
    have e2 : atIdx (cells.map V.int) (i : Int) = some (.int cells[i]) := by rw [at_nat, List.getElem?_map, List.getElem?_eq_getElem hi']; rfl
    simp? [hc, o_idxr hu, e1, e2]
    exact ⟨by omega, h _ _ ⟨Int.fmod_nonneg_of_pos _ hw, Int.fmod_lt_of_pos _ hw⟩ D' O'⟩
  · simp? [hc, o_idxr hu]
    refine ⟨.inl (by decide), .inl (by omega), .inl (by decide), by decide, by omega, h _ _ ⟨Int.fmod_nonneg_of_pos _ hw, Int.fmod_lt_of_pos _ hw⟩ D' O'⟩
theorem times_spec {terms : List (Int × Nat)} {x : Nat} (h : Q (.int (times terms x)) σ) : CallV c (n + 1) (.ref 371) σ [.list (terms.map pV), .int x] Q := by
  refine L.f_law_times rfl ?_
  simp? [b_law_times, p_law_times]
  refine loopS_inv pV (fun done rest fr σ' => terms = done ++ rest ∧ fr "x" = some (.int x) ∧ fr "found" = some (.int (times done x)) ∧ σ' = σ) ?_ ?_ terms [] _ _ ?_
  · rintro done p rest fr σ' K ⟨hd, f1, f2, rfl⟩ kn kr
    simp? [pV, f1, f2]
    by_cases hp : (p.2 : Int) = (x : Int)
    · simp? [hp, f2]
      refine kn _ _ ⟨by simp [hd], ?_⟩
      simp? [f1, times_snoc]
      rw [if_pos (by omega)]
      first | done | exact ⟨rfl, rfl⟩
    · simp? [hp, f2]
      refine kn _ _ ⟨by simp [hd], ?_⟩
      simp? [f1, f2, times_snoc]
      rw [if_neg (by omega)]
      first | done | simp
  · rintro done fr σ' ⟨hd, f1, f2, rfl⟩
    rw [List.append_nil] at hd; subst hd
    simp? [f2]; exact h
  · simp? [kV]
    first | done | simp [times]
theorem told_right_spec (I : SIs σ A s k) {r : Addr} {kind : String} {terms : List (Int × Nat)} {goal : Int} {lots : List (List Int)} {lt : Addr} (R : RIs σ r kind (Pm terms lots.length) goal) (hr : r ∉ A.l) (hlt : σ lt = some (.list (lots.map lV))) (hla : lt ∉ A.l)
    (RD : Rep s.D lots) (hm : lots.length < 64) (hb : ∀ x, (times terms x).natAbs < 2 ^ 60) (h : ∀ σ', Only [] σ σ' → Q (.bool true) σ') :
    CallV c (n + 4) (.ref 376) σ [.obj "Row" r, .list (terms.map pV), .int goal, .ref lt, .obj "Store" A.d] Q := by
  refine L.f_law_told_right rfl ?_
  have noR : ∀ y : String, ("kind" == y || "parts" == y || "c" == y) = false → ∃ l, σ r = some (.ns l) ∧ l.lookup y = none := fun y hy => by
    refine ⟨_, R.ns, ?_⟩
    simp only [Bool.or_eq_false_iff] at hy
    obtain ⟨⟨q1, q2⟩, q3⟩ := hy
    have sw : ∀ z : String, (z == y) = false → (y == z) = false := fun z h => by
      rw [beq_eq_false_iff_ne] at h ⊢; exact Ne.symm h
    rw [lk_ne _ _ (sw _ q1), lk_ne _ _ (sw _ q2), lk_ne _ _ (sw _ q3)]; rfl
  have PmE : Pm terms lots.length = PmL terms (List.range lots.length) := rfl
  have hx : ∀ p ∈ Pm terms lots.length, p.2 < s.D.length ∧ p.1.natAbs < 2 ^ 60 := fun p hp => by
    obtain ⟨a, b, _⟩ := Pm_mem hp
    exact ⟨by rw [RD.1]; exact a, by rw [b]; exact hb _⟩
  simp? [b_law_told_right, p_law_told_right]
  refine ⟨71, L.m_Row_last, noR _ (by decide), (last_spec (n := 0) L I R hr hx (by have := Pm_len terms lots.length; omega) ?_).more (by omega)⟩
  simp? [kV]
  refine ⟨Nat.zero_le _, fun a ha => ?_⟩
  have nla : lt ≠ a := fun q => by rw [q, ha] at hlt; cases hlt
  have hl1 : ∀ o, upd σ a o lt = some (.list (lots.map lV)) := fun o => by rw [upd_ne _ _ nla]; exact hlt
  refine ⟨size4 (by decide), ?_⟩
  simp? [e_lenr (hl1 _), List.length_map, i_rng (ok0 (show lots.length ≤ 1000 by omega)), rngV0]
  refine loopS_inv (α := Nat) (fun x => V.int (x : Int)) (fun done rest fr σ' => List.range lots.length = done ++ rest ∧ fr "terms" = some (.list (terms.map pV)) ∧ fr "lots" = some (.ref lt) ∧ fr "due" = some (.ref a) ∧ fr "left" = some (.int (goal - lSum s.D (PmL terms done))) ∧
    fr "opened" = some (.list ((lOpen s.D (Pm terms lots.length)).map pV)) ∧ fr "lack" = some (.int (goal - lSum s.D (Pm terms lots.length))) ∧ fr "reasons" = some (.tup ((lRea s.D (Pm terms lots.length)).map fun p => rV p.1 p.2)) ∧
    σ' = upd σ a (.list ((lOpen s.D (PmL terms done)).map pV))) ?_ ?_ (List.range lots.length) [] _ _ ?_
  · rintro done x rest fr σ' K ⟨hd, f1, f2, f3, f4, f5, f6, f7, rfl⟩ kn kr
    have hxl : x < lots.length := by
      have : x ∈ List.range lots.length := by rw [hd]; simp
      exact List.mem_range.mp this
    have hu := upd_same σ a (O.list ((lOpen s.D (PmL terms done)).map pV))
    have la : atIdx (lots.map lV) (x : Int) = some (lV (lots.getD x [])) := by rw [at_nat, lot_at hxl]
    have len := congrArg List.length hd
    simp only [List.length_append, List.length_cons, List.length_range] at len
    have l1 : (lOpen s.D (PmL terms done)).length ≤ done.length := Nat.le_trans (List.length_filter_le _ _) (List.length_filterMap_le _ _)
    simp? [f1]
    refine ⟨_, L.n_law_times, (times_spec (n := 0) L ?_).more (by omega)⟩
    by_cases ht : times terms x = 0
    · simp? [ht]
      refine kn _ _ ⟨by simp [hd], ?_⟩
      simp? [f1, f2, f3, f4, f5, f6, f7, PmL_snoc, ht, ne_eq, not_true_eq_false, List.append_nil]
    · simp? [ht, f2, o_idxr (hl1 _), la]
      simp? [lV, List.length_map]
      by_cases hl : (lots.getD x []).length = 1
      · obtain ⟨v, hv, q1, q2⟩ := RD.one hxl hl
        have hg : ¬ (((lots.getD x []).length : Int) > 1) := by omega
        simp? [hg, ht, f2, f4, o_idxr (hl1 _), la, lV, hv, List.map_cons, List.map_nil]
        refine ⟨.inl (hb x), kn _ _ ⟨by simp [hd], ?_⟩⟩
        simp? [f1, f2, f3, f4, f5, f6, f7, PmL_snoc, ht, ne_eq, not_false_eq_true, lOpen_append, lSum_append]
        have e1 : lOpen s.D [(times terms x, x)] = [] := by simp [lOpen, q1]
        have e2 : lSum s.D [(times terms x, x)] = times terms x * v := by simp [lSum, q2]
        rw [e1, e2, List.append_nil]
        exact ⟨by omega, rfl⟩
      · obtain ⟨q1, q2⟩ := RD.nofix hxl hl
        have h0 := (RD.2 x hxl).2.2
        have hg : (((lots.getD x []).length : Int) > 1) := by
          have : (lots.getD x []).length ≠ 0 := fun q => h0 (List.length_eq_zero_iff.mp q)
          omega
        simp? [hg, f3, e_sapp hu, e_app hu, List.length_map, upd_upd]
        refine ⟨size4 (by decide), size5 (by omega), kn _ _ ⟨by simp [hd], ?_⟩⟩
        simp? [f1, f2, f3, f4, f5, f6, f7, PmL_snoc, ht, ne_eq, not_false_eq_true, lOpen_append, lSum_append]
        have e1 : lOpen s.D [(times terms x, x)] = [(times terms x, x)] := by simp [lOpen, q1]
        have e2 : lSum s.D [(times terms x, x)] = 0 := by simp [lSum, q2]
        rw [e1, e2]
        exact ⟨by omega, by simp [pV]⟩
  · rintro done fr σ' ⟨hd, f1, f2, f3, f4, f5, f6, f7, rfl⟩
    rw [List.append_nil] at hd
    rw [← hd, ← PmE]
    rw [← hd, ← PmE] at f4
    have hu := upd_same σ a (O.list ((lOpen s.D (Pm terms lots.length)).map pV))
    have pp : ∀ l : List (Int × Nat), plain 8 (.list (l.map pV)) := fun l => by rw [p_list]; exact p_map (pV_plain 6) l
    have ee : ∀ l : List (Int × Nat), pyEq (.list (l.map pV)) (.list (l.map pV)) = true := fun l => by rw [e_eql, e_eqm pV_eq]; simp
    simp? [f1, f2, f3, f4, f5, f6, f7, rl_ref hu, pp, ee, e_lenr (hl1 _), List.length_map, i_rng (ok0 (show lots.length ≤ 1000 by omega)), rngV0]
    have hl2 := hl1 (O.list ((lOpen s.D (Pm terms lots.length)).map pV))
    have rea := rea_keys RD (terms := terms)
    have reaL : (lRea s.D (Pm terms lots.length)).length < 64 := by
      have e1 := congrArg List.length rea
      have e2 := List.length_filter_le (fun x => decide ((lots.getD x []).length = 1 ∧ times terms x ≠ 0)) (List.range lots.length)
      rw [List.length_range] at e2
      rw [List.length_map] at e1
      omega
    refine loopC_pure (α := Nat) (fun x => V.int (x : Int)) (fun x => if (lots.getD x []).length = 1 ∧ times terms x ≠ 0 then some (V.int (x : Int)) else none) _ _ [] (fun x hxm K' hK => ?_) ?_
    · have hxl : x < lots.length := List.mem_range.mp hxm
      have la : atIdx (lots.map lV) (x : Int) = some (lV (lots.getD x [])) := by rw [at_nat, lot_at hxl]
      simp? [f1, f2, f3, f4, f5, f6, f7, o_idxr hl2, la, lV, List.length_map]
      by_cases h1 : (lots.getD x []).length = 1
      · have h1' : ((lots.getD x []).length : Int) = 1 := by omega
        simp? [f1, f2, f3, f4, f5, f6, f7, o_idxr hl2, la, lV, List.length_map, h1']
        refine ⟨_, L.n_law_times, (times_spec (n := 0) L ?_).more (by omega)⟩
        by_cases ht : times terms x = 0
        · simp? [f1, f2, f3, f4, f5, f6, f7, ht]; rw [if_neg (fun q => q.2 ht)] at hK; exact hK
        · simp? [f1, f2, f3, f4, f5, f6, f7, ht]; rw [if_pos ⟨h1, ht⟩] at hK; exact hK
      · have h1' : ¬ ((lots.getD x []).length : Int) = 1 := by omega
        simp? [f1, f2, f3, f4, f5, f6, f7, o_idxr hl2, la, lV, List.length_map, h1']; rw [if_neg (fun q => h1 q.1)] at hK; exact hK
    · have hh : (List.range lots.length).filterMap (fun x => if (lots.getD x []).length = 1 ∧ times terms x ≠ 0 then some (V.int (x : Int)) else none) = (((List.range lots.length).filter fun x => decide ((lots.getD x []).length = 1 ∧ times terms x ≠ 0)).map fun (x : Nat) => (x : Int)).map V.int := by
        rw [List.map_map]
        generalize List.range lots.length = l
        induction l with
        | nil => rfl
        | cons y l ih =>
          rw [List.filterMap_cons, List.filter_cons]
          by_cases q : (lots.getD y []).length = 1 ∧ times terms y ≠ 0
          · rw [if_pos q, if_pos (decide_eq_true q), List.map_cons, ← ih]; rfl
          · rw [if_neg q, if_neg (fun z => q (of_decide_eq_true z))]; exact ih
      rw [List.nil_append, hh, ← rea]
      simp? [f1, f2, f3, f4, f5, f6, f7]
      refine loopC_pure (α := Nat × Int) (fun p => rV p.1 p.2) (fun p => some (V.int (p.1 : Int))) _ _ [] (fun p hp K' hK => ?_) ?_
      · simp? [rV]; exact hK
      · have e1 : (lRea s.D (Pm terms lots.length)).filterMap (fun p => some (V.int (p.1 : Int))) = (((lRea s.D (Pm terms lots.length)).map (·.1)).map fun (x : Nat) => (x : Int)).map V.int := by
          generalize lRea s.D (Pm terms lots.length) = l
          induction l with
          | nil => rfl
          | cons p l ih => simp [ih]
        have pw : (((lRea s.D (Pm terms lots.length)).map (·.1)).map fun (x : Nat) => (x : Int)).Pairwise (· < ·) := by
          rw [rea, List.pairwise_map]
          exact (List.pairwise_lt_range.filter _).imp fun h => by omega
        have pl : ∀ l : List Int, plains 7 (l.map V.int) := fun l => p_map (int_plain 7) l
        have le : ∀ l : List Int, pyEqs (l.map V.int) (l.map V.int) = true := fun l => by rw [e_eqm e_eqi]; simp
        simp? [f1, f2, f3, f4, f5, f6, f7, e1]
        refine ⟨by simpa using reaL, ?_⟩
        rw [sortZ_pw_id pw]
        simp? [f1, f2, f3, f4, f5, f6, f7, pl, le]
        refine loopC_pure (α := Nat × Int) (fun p => rV p.1 p.2) (fun p => none) _ _ [] (fun p hp K' hK => ?_) ?_
        · obtain ⟨q1, q2⟩ := rea_mem RD hp
          have la : atIdx (lots.map lV) (p.1 : Int) = some (lV [p.2]) := by rw [at_nat, lot_at q1, q2]
          simp? [rV, f2, o_idxr hl2, la, lV, List.map_cons, List.map_nil]
          exact ⟨size4 (by decide), hK⟩
        · have e2 : ((lRea s.D (Pm terms lots.length)).filterMap fun p => (none : Option V)) = [] := by
            generalize lRea s.D (Pm terms lots.length) = l
            induction l with
            | nil => rfl
            | cons p l ih => simpa using ih
          simp? [f1, f2, f3, f4, f5, f6, f7, e2]
          refine ⟨Nat.zero_le _, h _ fun b o eb _ => ?_⟩
          have : b ≠ a := fun q => by rw [q, ha] at eb; cases eb
          rw [upd_ne _ _ this]; exact eb
  · simp? [kV]
    simp [PmL, lSum, lOpen]
end
end PyW
namespace PyW
theorem fm_if {α β : Type} (p : α → Prop) [DecidablePred p] (f : α → β) : ∀ l : List α, l.filterMap (fun x => if p x then some (f x) else none) = (l.filter (fun x => decide (p x))).map f
  | [] => rfl
  | x :: l => by
    rw [List.filterMap_cons, List.filter_cons]
    by_cases h : p x
    · rw [if_pos h, if_pos (decide_eq_true h), List.map_cons, ← fm_if p f l]
    · rw [if_neg h, if_neg (fun z => h (of_decide_eq_true z))]; exact fm_if p f l
noncomputable def Lots (lots : List (List Int)) : Prop := ∀ x, (lots.getD x []).length ≤ 100 ∧ ∀ v ∈ lots.getD x [], v.natAbs ≤ 100
noncomputable def opL (lots : List (List Int)) (terms : List (Int × Nat)) : List Nat := (List.range lots.length).filter fun x => decide ((lots.getD x []).length > 1 ∧ times terms x ≠ 0)
noncomputable def fxL (lots : List (List Int)) (terms : List (Int × Nat)) : List Int := ((List.range lots.length).filter fun x => decide ((lots.getD x []).length = 1)).map fun x => times terms x * (lots.getD x []).headD 0
theorem PmL_cons (terms : List (Int × Nat)) (x : Nat) (l : List Nat) : PmL terms (x :: l) = (if times terms x ≠ 0 then [(times terms x, x)] else []) ++ PmL terms l := by
  unfold PmL; rw [List.filterMap_cons]; by_cases h : times terms x ≠ 0 <;> simp [h]
theorem op_eq {D : List (List (Int × Int))} {lots : List (List Int)} (R : Rep D lots) (terms : List (Int × Nat)) : lOpen D (Pm terms lots.length) = (opL lots terms).map fun x => (times terms x, x) := by
  have go : ∀ l : List Nat, (∀ x ∈ l, x < lots.length) → lOpen D (PmL terms l) = (l.filter fun x => decide ((lots.getD x []).length > 1 ∧ times terms x ≠ 0)).map fun x => (times terms x, x) := by
    intro l
    induction l with
    | nil => intro _; rfl
    | cons x l ih =>
      intro hl
      have ih := ih fun y hy => hl y (.tail _ hy)
      have hx := hl x (.head _)
      rw [PmL_cons, lOpen_append, ih, List.filter_cons]
      have n0 : (lots.getD x []).length ≠ 0 := fun q => (R.2 x hx).2.2 (List.length_eq_zero_iff.mp q)
      by_cases h : times terms x ≠ 0
      · rw [if_pos h]
        by_cases h1 : (lots.getD x []).length = 1
        · obtain ⟨v, _, q, _⟩ := R.one hx h1
          rw [if_neg (fun z => by have := of_decide_eq_true z; omega)]
          simp [lOpen, q]
        · rw [if_pos (decide_eq_true ⟨by omega, h⟩)]
          simp [lOpen, (R.nofix hx h1).1]
      · rw [if_neg h, if_neg (fun z => h (of_decide_eq_true z).2)]
        rfl
  exact go _ fun x hx => List.mem_range.mp hx
theorem fx_eq {D : List (List (Int × Int))} {lots : List (List Int)} (R : Rep D lots) (terms : List (Int × Nat)) : lSum D (Pm terms lots.length) = (fxL lots terms).sum := by
  have go : ∀ l : List Nat, (∀ x ∈ l, x < lots.length) → lSum D (PmL terms l) = ((l.filter fun x => decide ((lots.getD x []).length = 1)).map fun x => times terms x * (lots.getD x []).headD 0).sum := by
    intro l
    induction l with
    | nil => intro _; rfl
    | cons x l ih =>
      intro hl
      have ih := ih fun y hy => hl y (.tail _ hy)
      have hx := hl x (.head _)
      rw [PmL_cons, lSum_append, ih, List.filter_cons]
      by_cases h1 : (lots.getD x []).length = 1
      · obtain ⟨v, hv, _, q⟩ := R.one hx h1
        rw [if_pos (decide_eq_true h1), List.map_cons, List.sum_cons, hv]
        by_cases h : times terms x ≠ 0
        · rw [if_pos h]; simp [lSum, q]
        · rw [if_neg h]
          have : times terms x = 0 := by omega
          simp [lSum, this]
      · rw [if_neg (fun z => h1 (of_decide_eq_true z))]
        have q := (R.nofix hx h1).2
        by_cases h : times terms x ≠ 0
        · rw [if_pos h]; simp [lSum, q]
        · rw [if_neg h]; simp [lSum]
  exact go _ fun x hx => List.mem_range.mp hx
theorem dAt_some {D : List (List (Int × Int))} {x : Nat} (h : x < D.length) : D[x]? = some (dAt D x) := by rw [dAt, List.getD_eq_getElem?_getD, List.getElem?_eq_getElem h]; rfl
theorem dAt_set {D : List (List (Int × Int))} {x : Nat} (h : x < D.length) (d : List (Int × Int)) (y : Nat) : dAt (D.set x d) y = if y = x then d else dAt D y := by
  unfold dAt
  rw [List.getD_eq_getElem?_getD, List.getD_eq_getElem?_getD, List.getElem?_set]
  by_cases q : x = y
  · subst q; simp [h]
  · rw [if_neg q, if_neg (Ne.symm q)]
theorem getD_set {D : List (List Int)} {x : Nat} (h : x < D.length) (d : List Int) (y : Nat) : (D.set x d).getD y [] = if y = x then d else D.getD y [] := by
  rw [List.getD_eq_getElem?_getD, List.getD_eq_getElem?_getD, List.getElem?_set]
  by_cases q : x = y
  · subst q; simp [h]
  · rw [if_neg q, if_neg (Ne.symm q)]
theorem Rep.set {D : List (List (Int × Int))} {lots : List (List Int)} (R : Rep D lots) {x : Nat} (hx : x < lots.length) {sg : String} {v : Int} (ne : (lots.getD x []).filter (keepB sg v) ≠ []) :
    Rep (D.set x (struckD sg v (dAt D x))) (lots.set x ((lots.getD x []).filter (keepB sg v))) := by
  have hx' : x < D.length := by rw [R.1]; exact hx
  refine ⟨by simp [R.1], fun y hy => ?_⟩
  rw [List.length_set] at hy
  rw [dAt_set hx', getD_set hx]
  by_cases q : y = x
  · subst q
    obtain ⟨c, e, _⟩ := R.2 y hx
    rw [if_pos rfl, if_pos rfl]
    refine ⟨(vals_struck c).2, ?_, ne⟩
    rw [(vals_struck c).1, e]
  · rw [if_neg q, if_neg q]; exact R.2 y hy
theorem Lots.set {lots : List (List Int)} (h : Lots lots) {x : Nat} (hx : x < lots.length) (f : Int → Bool) : Lots (lots.set x ((lots.getD x []).filter f)) := by
  intro y
  rw [getD_set hx]
  by_cases q : y = x
  · rw [if_pos q]
    exact ⟨Nat.le_trans (List.length_filter_le _ _) (h x).1, fun v hv => (h x).2 v (List.mem_filter.mp hv).1⟩
  · rw [if_neg q]; exact h y
theorem Rep.ne {D : List (List (Int × Int))} {lots : List (List Int)} (R : Rep D lots) {x : Nat} (hx : x < lots.length) {sg : String} {v : Int} (ne : (lots.getD x []).filter (keepB sg v) ≠ []) : struckD sg v (dAt D x) ≠ [] := by
  intro q
  obtain ⟨c, e, _⟩ := R.2 x hx
  have := (vals_struck (s := sg) (k := v) c).1
  rw [q, e] at this
  exact ne this.symm
theorem Rep.len {D : List (List (Int × Int))} {lots : List (List Int)} (R : Rep D lots) (h : Lots lots) {x : Nat} (hx : x < lots.length) : (dAt D x).length ≤ 100 := by
  obtain ⟨⟨lo, c⟩, e, _⟩ := R.2 x hx
  have := c.len
  rw [e] at this
  have := (h x).1
  omega
theorem Rep.ok {D : List (List (Int × Int))} {lots : List (List Int)} (R : Rep D lots) (h : Lots lots) {x : Nat} (hx : x < lots.length) : ∀ p ∈ dAt D x, okRange p.1 (p.2 + 1) := by
  obtain ⟨⟨lo, c⟩, e, _⟩ := R.2 x hx
  intro p hp
  obtain ⟨q1, q2, q3⟩ := c.ends p hp
  rw [e] at q2 q3
  have b1 := (h x).2 _ q2
  have b2 := (h x).2 _ q3
  unfold okRange
  omega
theorem Rep.all {D : List (List (Int × Int))} {lots : List (List Int)} (R : Rep D lots) : (List.range lots.length).filterMap (fun x => some (lV (valsD (dAt D x)))) = lots.map lV := by
  apply List.ext_getElem?
  intro i
  have e : (List.range lots.length).filterMap (fun x => some (lV (valsD (dAt D x)))) = (List.range lots.length).map (fun x => lV (valsD (dAt D x))) := by
    generalize List.range lots.length = l
    induction l with
    | nil => rfl
    | cons a l ih => simp [ih]
  rw [e]
  by_cases h : i < lots.length
  · rw [lot_at h, List.getElem?_map, List.getElem?_range h]
    simp only [Option.map_some, (R.2 i h).2.1]
  · rw [List.getElem?_eq_none (by simpa using h), List.getElem?_eq_none (by simpa using h)]
structure Evo (s s' : SS) : Prop where
  M : s'.M = s.M
  F : s'.F = s.F
  t : ∃ t, s'.T = s.T ++ t ∧ undo t s'.D = s.D ∧ ∀ e ∈ t, e.x < s.D.length
theorem Evo.same {s s' : SS} (hM : s'.M = s.M) (hF : s'.F = s.F) (hT : s'.T = s.T) (hD : s'.D = s.D) : Evo s s' := ⟨hM, hF, [], by simp [hT], by simp [undo, hD], fun _ h => nomatch h⟩
theorem Struck.evo {s s' : SS} {x : Nat} {old fresh : List (Int × Int)} (h : Struck s s' x old fresh) (hx : s.D[x]? = some old) : Evo s s' := by
  obtain ⟨d, m, f, _, t⟩ := h
  obtain ⟨hl, he⟩ := List.getElem?_eq_some_iff.mp hx
  refine ⟨m, f, ?_⟩
  rcases t with ⟨t, e⟩ | ⟨lit, rea, t⟩
  · refine ⟨[], by simp [t], ?_, fun _ h => nomatch h⟩
    subst e
    simp only [undo, List.foldr_nil, d]
    apply List.ext_getElem?
    intro i
    rw [List.getElem?_set]
    by_cases q : x = i
    · subst q; simp [hl, he]
    · simp [q]
  · refine ⟨[⟨x, old, lit, rea⟩], t, ?_, fun e h => by rw [List.mem_singleton.mp h]; exact hl⟩
    simp only [undo, List.foldr_cons, List.foldr_nil, d]
    apply List.ext_getElem?
    intro i
    rw [List.getElem?_set]
    by_cases q : x = i
    · subst q; simp [hl, he]
    · simp [q]
theorem lVs_eq (a b : List (List Int)) : pyEqs (a.map lV) (b.map lV) = decide (a = b) := e_eqm lV_eq a b
theorem lVs_plain (a : List (List Int)) : plains 7 (a.map lV) := p_map (lV_plain 6) a
/-- the last open variable's filter -/
theorem due_filter {fixed goal t : Int} (ht : t ≠ 0) (l : List Int) : l.filter (fun v => decide (fixed + t * v ≠ goal)) = if (goal - fixed).fmod t = 0 then l.filter (keepB "!=" ((goal - fixed).fdiv t)) else l := by
  have e := Int.mul_fdiv_add_fmod (goal - fixed) t
  have kb : ∀ k x : Int, keepB "!=" k x = decide (x ≠ k) := fun k x => rfl
  by_cases h : (goal - fixed).fmod t = 0
  · rw [if_pos h]
    congr 1; funext v
    rw [kb, decide_eq_decide]
    have : v = (goal - fixed).fdiv t ↔ fixed + t * v = goal := by
      constructor
      · rintro rfl; rw [h] at e; omega
      · intro q
        rw [h, Int.add_zero] at e
        have : t * v = t * (goal - fixed).fdiv t := by omega
        exact Int.eq_of_mul_eq_mul_left ht this
    exact ⟨fun a b => a (this.mp b), fun a b => a (this.mpr b)⟩
  · rw [if_neg h, List.filter_eq_self]
    intro v _
    apply decide_eq_true
    intro q
    apply h
    have : goal - fixed = t * v := by omega
    rw [this, Int.mul_fmod_right]
section
variable {c : Cx} (L : L2 c) {n : Nat} {σ : Sg} {Q : V → Sg → Prop} {A : SA} {s : SS} {k : Nat}
include L
noncomputable def noSh (A : SA) : String → Bool := fun y => "domains" == y || "firsts" == y || "trail" == y || "marks" == y || "news" == y || "speaker" == y || "is_failed" == y || "clash" == y
omit L in
theorem si_no (I : SIs σ A s k) (y : String) (hy : ("domains" == y || "firsts" == y || "trail" == y || "marks" == y || "news" == y || "speaker" == y || "is_failed" == y || "clash" == y) = false) : ∃ l, σ A.d = some (.ns l) ∧ l.lookup y = none := by
  refine ⟨_, I.ns, ?_⟩
  simp only [Bool.or_eq_false_iff] at hy
  obtain ⟨⟨⟨⟨⟨⟨⟨q1, q2⟩, q3⟩, q4⟩, q5⟩, q6⟩, q7⟩, q8⟩ := hy
  have sw : ∀ z : String, (z == y) = false → (y == z) = false := fun z h => by
    rw [beq_eq_false_iff_ne] at h ⊢; exact Ne.symm h
  rw [nsOf, lk_ne _ _ (sw _ q1), lk_ne _ _ (sw _ q2), lk_ne _ _ (sw _ q3), lk_ne _ _ (sw _ q4), lk_ne _ _ (sw _ q5), lk_ne _ _ (sw _ q6), lk_ne _ _ (sw _ q7), lk_ne _ _ (sw _ q8)]; rfl
omit L in
theorem ri_no {r : Addr} {kind : String} {parts : List (Int × Nat)} {c0 : Int} (R : RIs σ r kind parts c0) (y : String) (hy : ("kind" == y || "parts" == y || "c" == y) = false) : ∃ l, σ r = some (.ns l) ∧ l.lookup y = none := by
  refine ⟨_, R.ns, ?_⟩
  simp only [Bool.or_eq_false_iff] at hy
  obtain ⟨⟨q1, q2⟩, q3⟩ := hy
  have sw : ∀ z : String, (z == y) = false → (y == z) = false := fun z h => by
    rw [beq_eq_false_iff_ne] at h ⊢; exact Ne.symm h
  rw [lk_ne _ _ (sw _ q1), lk_ne _ _ (sw _ q2), lk_ne _ _ (sw _ q3)]; rfl
omit L in
theorem only_new {l : List Addr} {σ σ' : Sg} {a : Addr} {o : O} (h : σ a = none) (x : Only l (upd σ a o) σ') : Only l σ σ' := fun b o' e n => x b o' (by
  have : b ≠ a := fun q => by rw [q, h] at e; cases e
  rw [upd_ne _ _ this]; exact e) n
noncomputable def tP5 : List St := b_law_part_right.drop 5
noncomputable def tP4 : List St := b_law_part_right.drop 4
noncomputable def tP2 : List St := b_law_part_right.drop 2
noncomputable def st0 : St := .ret (.bool false)
omit L in
theorem tP4_eq : tP4 = tP4.getD 0 st0 :: tP5 := rfl
omit L in
theorem tP2_eq : tP2 = tP2.getD 0 st0 :: tP2.getD 1 st0 :: tP4 := rfl
omit L in
theorem tP0_eq : b_law_part_right = b_law_part_right.getD 0 st0 :: b_law_part_right.getD 1 st0 :: tP2 := rfl
set_option maxRecDepth 100000 in
theorem part_right_end (I : SIs σ A s k) {fr : Fm} {lots due : List (List Int)} {lt a : Addr} {O : List Nat} {fx goal : Int} (f1 : fr "is_right" = some (.bool true)) (f2 : fr "store" = some (.obj "Store" A.d)) (f3 : fr "lots" = some (.ref lt)) (f4 : fr "due" = some (.ref a)) (f5 : fr "opened" = some (.list (O.map fun (x : Nat) => V.int (x : Int))))
    (f6 : fr "fixed" = some (.int fx)) (f7 : fr "goal" = some (.int goal)) (hlt : σ lt = some (.list (lots.map lV))) (hda : σ a = some (.list (due.map lV))) (RD : Rep s.D due) (LB : Lots due) (hm : due.length = lots.length) (hm2 : lots.length < 64) (hf : s.f = decide (O = [] ∧ fx = goal)) (h : Q (.bool true) σ) :
    wSs P02 c (n + 6) tP5 fr σ (kFn Q) := by
  have I0 := I.ns
  rw [nsOf] at I0
  have rng := i_rng (σ := σ) (ok0 (show lots.length ≤ 1000 by omega))
  simp? [tP5, b_law_part_right, List.drop_succ_cons, List.drop_zero, f1, f2, f3, f4, f5, f6, f7, e_lenr hlt, List.length_map, rng, rngV0]
  refine loopC_pure (α := Nat) (fun x => V.int (x : Int)) (fun x => some (lV (valsD (dAt s.D x)))) _ _ [] (fun x hxm K' hK => ?_) ?_
  · have hxl : x < due.length := by rw [hm]; exact List.mem_range.mp hxm
    simp? [f1, f2, f3, f4, f5, f6, f7]
    refine ⟨_, L.n_values, 238, L.m_Store_dom, si_no I _ (by decide), (dom_spec (n := 0) L I (dAt_some (by rw [RD.1]; exact hxl)) ?_).more (by omega)⟩
    simp? [kV]
    refine ((values_spec (n := 0) L (RD.ok LB hxl) (by rw [(RD.2 x hxl).2.1]; have := (LB x).1; omega) ?_).more (by omega))
    exact hK
  · rw [← hm, RD.all, List.nil_append]
    have pO : plains 7 (O.map fun (x : Nat) => V.int (x : Int)) := p_map (fun x => int_plain 7 _) O
    have eO : pyEqs (O.map fun (x : Nat) => V.int (x : Int)) [] = decide (O = []) := by cases O <;> rfl
    simp? [f4, rl_ref hda, lVs_eq, lVs_plain, o_attr I0, fl_7, hf, f5, f6, f7, pO, eO]
    by_cases h1 : O = []
    · simp? [f1, f2, f3, f4, f5, f6, f7, h1, o_attr I0, fl_7, hf, List.map_nil]
      simpa using h
    · simp? [f1, f2, f3, f4, f5, f6, f7, h1, o_attr I0, fl_7, hf, pO, eO]
      simpa using h
omit L in
theorem Rep_two {D : List (List (Int × Int))} {lots : List (List Int)} (R : Rep D lots) {x : Nat} (hx : x < lots.length) (h : (lots.getD x []).length ≠ 1) (v : Int) : (lots.getD x []).filter (keepB "!=" v) ≠ [] := by
  obtain ⟨⟨lo, cn⟩, e, n0⟩ := R.2 x hx
  have pw := cn.pw
  rw [e] at pw
  intro q
  rw [List.filter_eq_nil_iff] at q
  match hl : lots.getD x [], h, n0 with
  | [], _, n0 => exact n0 rfl
  | [_], h, _ => exact h rfl
  | a :: b :: l, _, _ =>
    rw [hl] at q pw
    have kb : ∀ k x : Int, keepB "!=" k x = decide (x ≠ k) := fun k x => rfl
    have q1 := q a (by simp)
    have q2 := q b (by simp)
    rw [kb] at q1 q2
    have lt : a < b := (List.pairwise_cons.mp pw).1 b (by simp)
    simp only [ne_eq, decide_not, Bool.not_eq_true', decide_eq_false_iff_not, Decidable.not_not] at q1 q2
    omega
set_option maxRecDepth 100000 in
theorem part_right_mid (I : SIs σ A s k) (hk : k ≤ 900) {r : Addr} {kind : String} {terms : List (Int × Nat)} {goal : Int} {lots due : List (List Int)} {lt a : Addr} {O : List Nat} {fr : Fm} (R : RIs σ r kind (Pm terms lots.length) goal) (hr : r ∉ A.l) (hlt : σ lt = some (.list (lots.map lV))) (hla : lt ∉ A.l) (hna : a ∉ A.l)
    (f0 : fr "row" = some (.obj "Row" r)) (f2 : fr "store" = some (.obj "Store" A.d)) (f3 : fr "lots" = some (.ref lt)) (f4 : fr "due" = some (.ref a)) (f5 : fr "opened" = some (.list (O.map fun (x : Nat) => V.int (x : Int))))
    (f6 : fr "fixed" = some (.int (lSum s.D (Pm terms lots.length)))) (f7 : fr "goal" = some (.int goal)) (hda : σ a = some (.list (due.map lV)))
    (RD : Rep s.D lots) (LB : Lots lots) (hm : lots.length < 64) (hb : ∀ x, (times terms x).natAbs < 2 ^ 30) (hf : s.f = false)
    (hO : lOpen s.D (Pm terms lots.length) = O.map fun x => (times terms x, x)) (hOm : ∀ x ∈ O, x < lots.length ∧ (lots.getD x []).length > 1 ∧ times terms x ≠ 0)
    (hd1 : ∀ x, O = [x] → due = lots.set x ((lots.getD x []).filter fun v => decide (lSum s.D (Pm terms lots.length) + times terms x * v ≠ goal))) (hd2 : (∀ x, O ≠ [x]) → due = lots)
    (h : ∀ σ' s', SIs σ' A s' (k + 1) → Only A.l σ σ' → Evo s s' → Q (.bool true) σ') :
    wSs P02 c (n + 6) tP4 fr σ (kFn Q) := by
  rw [tP4_eq]
  have pO : plains 7 (O.map fun (x : Nat) => V.int (x : Int)) := p_map (fun x => int_plain 7 _) O
  have eO : pyEqs (O.map fun (x : Nat) => V.int (x : Int)) [] = decide (O = []) := by cases O <;> rfl
  simp? [tP4, b_law_part_right, List.drop_succ_cons, List.drop_zero, List.getD_cons_zero, f0, f2]
  refine ⟨78, L.m_Row_part, ri_no R _ (by decide), size4 (by decide), part_spec (n := n) L I hk R hr (fun p hp => ?_) (by have := Pm_len terms lots.length; omega) (fun x hx => ?_) (fun x v hx hfx => ?_) ?_ ?_ ?_⟩
  · obtain ⟨q1, q2, q3⟩ := Pm_mem hp
    exact ⟨by rw [RD.1]; exact q1, q3, by rw [q2]; exact hb _⟩
  · rw [RD.1] at hx
    have := RD.len LB hx; omega
  · rw [RD.1] at hx
    refine RD.ne hx (Rep_two RD hx (fun q => ?_) v)
    have := (RD.fix hx).1.mpr q
    rw [hfx] at this; cases this
  · intro e0 e1 σ' cl I' o
    have hO0 : O = [] := by rw [hO] at e0; exact List.map_eq_nil_iff.mp e0
    subst hO0
    have e2 : lSum s.D (Pm terms lots.length) = goal := by omega
    rw [e2] at f6 hd1
    simp? [f5, f6, f7, List.map_nil]
    refine ⟨size4 (by decide), ?_⟩
    have ed := hd2 (fun x q => nomatch q)
    subst ed
    exact part_right_end L (I'.more (Nat.le_succ k)) (O := []) (by simp? [kV]) (by simp? [f2]) (by simp? [f3]) (by simp? [f4]) (by simp? [f5, List.map_nil]) (by simp? [f6]; rfl) (by simp? [f7]; rfl) (o _ _ hlt hla) (o _ _ hda hna) RD LB rfl hm (by simp) (h _ _ (I'.more (Nat.le_succ k)) o (.same rfl rfl rfl rfl))
  · intro t x e0 e1 σ' s' I' o st
    have hO1 : O = [x] ∧ t = times terms x := by
      rw [hO] at e0
      match O, e0 with
      | [y], e0 => simp only [List.map_cons, List.map_nil, List.cons.injEq, Prod.mk.injEq, and_true] at e0; obtain ⟨z1, z2⟩ := e0; subst z2; exact ⟨rfl, z1.symm⟩
      | [], e0 => exact nomatch e0
      | _ :: _ :: _, e0 => simp at e0
    obtain ⟨hO1, ht⟩ := hO1
    subst ht
    obtain ⟨hx1, hx2, hx3⟩ := hOm x (by rw [hO1]; simp)
    have ed := hd1 x hO1
    rw [due_filter hx3, if_pos e1] at ed
    have RD' : Rep s'.D due := by
      rw [st.1, ed]
      exact RD.set hx1 (Rep_two RD hx1 (by omega) _)
    have LB' : Lots due := by rw [ed]; exact LB.set hx1 _
    subst hO1
    simp? [f5, f6, f7, List.map_cons, List.map_nil]
    refine ⟨size4 (by decide), ?_⟩
    exact part_right_end L I' (O := [x]) (by simp? [kV]) (by simp? [f2]) (by simp? [f3]) (by simp? [f4]) (by simp? [f5, List.map_cons, List.map_nil]) (by simp? [f6]; rfl) (by simp? [f7]; rfl) (o _ _ hlt hla) (o _ _ hda hna) RD' LB' (by rw [ed]; simp) hm (by rw [st.2.2.2.1, hf]; simp) (h _ _ I' o (st.evo (dAt_some (by rw [RD.1]; exact hx1))))
  · intro n0 n1
    have ed : due = lots := by
      by_cases q : ∃ x, O = [x]
      · obtain ⟨x, q⟩ := q
        have ed := hd1 x q
        rw [due_filter (hOm x (by rw [q]; simp)).2.2, if_neg (n1 _ x (by rw [hO, q]; rfl))] at ed
        rw [ed]
        apply List.ext_getElem?
        intro i
        rw [List.getElem?_set]
        by_cases z : x = i
        · subst z
          have hx := (hOm x (by rw [q]; simp)).1
          simp [hx]
        · simp [z]
      · exact hd2 fun x z => q ⟨x, z⟩
    subst ed
    have nf : ¬ (O = [] ∧ lSum s.D (Pm terms due.length) = goal) := fun q => n0 ⟨by rw [hO, q.1]; rfl, by omega⟩
    have fin := part_right_end L (I.more (Nat.le_succ k)) (fr := upd fr "is_right" (.bool true)) (O := O) (Q := Q) (n := n) (by simp? [kV]) (by simp? [f2]) (by simp? [f3]) (by simp? [f4]) (by simp? [f5]) (by simp? [f6]; rfl) (by simp? [f7]; rfl) hlt hda RD LB rfl hm (by rw [hf, decide_eq_false nf]) (h _ _ (I.more (Nat.le_succ k)) (.refl _ _) (.same rfl rfl rfl rfl))
    by_cases z : O = []
    · have z2 : ¬ lSum s.D (Pm terms due.length) = goal := fun q => nf ⟨z, q⟩
      subst z
      simp? [f5, f6, f7, List.map_nil, z2]
      first | exact ⟨size4 (by decide), fin⟩ | exact fin
    · simp? [f5, f6, f7, pO, eO, z]
      first | exact ⟨size4 (by decide), fin⟩ | exact fin
set_option maxRecDepth 100000 in
theorem part_right_spec (I : SIs σ A s k) (hk : k ≤ 900) {r : Addr} {kind : String} {terms : List (Int × Nat)} {goal : Int} {lots : List (List Int)} {lt : Addr} (R : RIs σ r kind (Pm terms lots.length) goal) (hr : r ∉ A.l) (hlt : σ lt = some (.list (lots.map lV))) (hla : lt ∉ A.l)
    (RD : Rep s.D lots) (LB : Lots lots) (hm : lots.length < 64) (hb : ∀ x, (times terms x).natAbs < 2 ^ 30) (hf : s.f = false) (h : ∀ σ' s', SIs σ' A s' (k + 1) → Only A.l σ σ' → Evo s s' → Q (.bool true) σ') :
    CallV c (n + 7) (.ref 381) σ [.obj "Row" r, .list (terms.map pV), .int goal, .ref lt, .obj "Store" A.d] Q := by
  refine L.f_law_part_right rfl ?_
  rw [tP0_eq]
  have rng := i_rng (σ := σ) (ok0 (show lots.length ≤ 1000 by omega))
  simp? [b_law_part_right, p_law_part_right, List.getD_cons_zero, List.getD_cons_succ, e_lenr hlt, List.length_map, rng, rngV0]
  refine loopC_pure (α := Nat) (fun x => V.int (x : Int)) (fun x => if (lots.getD x []).length > 1 ∧ times terms x ≠ 0 then some (V.int (x : Int)) else none) _ _ [] (fun x hxm K' hK => ?_) ?_
  · have hxl : x < lots.length := List.mem_range.mp hxm
    have la : atIdx (lots.map lV) (x : Int) = some (lV (lots.getD x [])) := by rw [at_nat, lot_at hxl]
    simp? [o_idxr hlt, la, lV, List.length_map]
    by_cases h1 : (lots.getD x []).length > 1
    · have h1' : ((lots.getD x []).length : Int) > 1 := by omega
      simp? [h1']
      refine ⟨_, L.n_law_times, (times_spec (n := 0) L ?_).more (by omega)⟩
      by_cases ht : times terms x = 0
      · simp? [ht]; rw [if_neg (fun q => q.2 ht)] at hK; exact hK
      · simp? [ht]; rw [if_pos ⟨h1, ht⟩] at hK; exact hK
    · have h1' : ¬ ((lots.getD x []).length : Int) > 1 := by omega
      simp? [h1']; rw [if_neg (fun q => h1 q.1)] at hK; exact hK
  rw [List.nil_append, fm_if]
  have hO := op_eq RD terms
  have hOm : ∀ x ∈ opL lots terms, x < lots.length ∧ (lots.getD x []).length > 1 ∧ times terms x ≠ 0 := fun x hx => by
    obtain ⟨a, b⟩ := List.mem_filter.mp hx
    exact ⟨List.mem_range.mp a, of_decide_eq_true b⟩
  have hF := fx_eq RD terms
  rw [show (List.range lots.length).filter (fun x => decide ((lots.getD x []).length > 1 ∧ times terms x ≠ 0)) = opL lots terms from rfl]
  generalize opL lots terms = Os at *
  simp? [e_lenr hlt, List.length_map, rng, rngV0]
  refine loopC_pure (α := Nat) (fun x => V.int (x : Int)) (fun x => if (lots.getD x []).length = 1 then some (V.int (times terms x * (lots.getD x []).headD 0)) else none) _ _ [] (fun x hxm K' hK => ?_) ?_
  · have hxl : x < lots.length := List.mem_range.mp hxm
    have la : atIdx (lots.map lV) (x : Int) = some (lV (lots.getD x [])) := by rw [at_nat, lot_at hxl]
    simp? [o_idxr hlt, la, lV, List.length_map]
    by_cases h1 : (lots.getD x []).length = 1
    · have h1' : ((lots.getD x []).length : Int) = 1 := by omega
      simp? [h1']
      refine ⟨_, L.n_law_times, (times_spec (n := 0) L ?_).more (by omega)⟩
      obtain ⟨v, hv⟩ := List.length_eq_one_iff.mp h1
      rw [if_pos h1, hv] at hK
      simp? [o_idxr hlt, la, lV, hv, List.map_cons, List.map_nil]
      exact ⟨.inl (by have := hb x; omega), hK⟩
    · have h1' : ¬ ((lots.getD x []).length : Int) = 1 := by omega
      simp? [h1']; rw [if_neg h1] at hK; exact hK
  rw [List.nil_append, fm_if, show (((List.range lots.length).filter fun x => decide ((lots.getD x []).length = 1)).map fun x => V.int (times terms x * (lots.getD x []).headD 0)) = (fxL lots terms).map V.int by rw [fxL, List.map_map]; rfl]
  simp? [kV]
  rw [tP2_eq]
  simp? [tP2, b_law_part_right, List.drop_succ_cons, List.drop_zero, List.getD_cons_zero, List.getD_cons_succ, e_lstr true hlt]
  intro a ha
  have na := I.fresh ha
  have nra : r ≠ a := fun q => by have := R.ns; rw [q, ha] at this; cases this
  have nla : lt ≠ a := fun q => by rw [q, ha] at hlt; cases hlt
  have hda0 := upd_same σ a (O.list (lots.map lV))
  have hlt1 : ∀ o, upd σ a o lt = some (.list (lots.map lV)) := fun o => by rw [upd_ne _ _ nla]; exact hlt
  have hR1 : ∀ o, RIs (upd σ a o) r kind (Pm terms lots.length) goal := fun o => ⟨by rw [upd_ne _ _ nra]; exact R.ns⟩
  have h' : ∀ o σ' s', SIs σ' A s' (k + 1) → Only A.l (upd σ a o) σ' → Evo s s' → Q (.bool true) σ' := fun o σ' s' I' o' e => h σ' s' I' (only_new ha o') e
  by_cases q : ∃ x, Os = [x]
  · obtain ⟨x, q⟩ := q
    subst q
    obtain ⟨hx1, hx2, hx3⟩ := hOm x (by simp)
    have la : atIdx (lots.map lV) (x : Int) = some (lV (lots.getD x [])) := by rw [at_nat, lot_at hx1]
    simp? [List.map_cons, List.map_nil, o_idxr (hlt1 _), la, lV]
    refine loopC_pure (α := Int) V.int (fun v => if lSum s.D (Pm terms lots.length) + times terms x * v ≠ goal then some (V.int v) else none) _ _ [] (fun v hv K' hK => ?_) ?_
    · simp? [kV]
      refine ⟨_, L.n_law_times, (times_spec (n := 0) L ?_).more (by omega)⟩
      simp? [← hF]
      refine ⟨.inl (by have := hb x; omega), ?_⟩
      by_cases z : lSum s.D (Pm terms lots.length) + times terms x * v = goal
      · simp? [z]; rw [if_neg (fun q => q z)] at hK; exact hK
      · simp? [z]; rw [if_pos z] at hK; exact hK
    · rw [List.nil_append, fm_if]
      have idx : idxOf (lots.map lV) (x : Int) = some x := by
        unfold idxOf
        rw [if_pos (by omega), if_pos (by simpa using hx1)]; simp
      simp? [o_setl hda0, idx, upd_upd]
      refine part_right_mid L (I.updF na _) hk (hR1 _) hr (hlt1 _) hla na (due := lots.set x ((lots.getD x []).filter fun v => decide (lSum s.D (Pm terms lots.length) + times terms x * v ≠ goal))) (O := [x]) (by simp? [kV]) (by simp? [kV]) (by simp? [kV]) (by simp? [kV]) (by simp? [List.map_cons, List.map_nil]) (by simp? [hF]) (by simp? [kV]) (by rw [upd_same, List.map_set]; rfl) RD LB hm hb hf hO hOm (fun y hy => by cases hy; rfl) (fun z => absurd rfl (z x)) (h' _)
  · have nq : ¬ (((Os.map fun (x : Nat) => V.int (x : Int)).length : Nat) : Int) = 1 := by
      intro z
      rw [List.length_map] at z
      obtain ⟨x, hx⟩ := List.length_eq_one_iff.mp (show Os.length = 1 by omega)
      exact q ⟨x, hx⟩
    simp? [nq]
    refine part_right_mid L (I.updF na _) hk (hR1 _) hr (hlt1 _) hla na (due := lots) (O := Os) (by simp? [kV]) (by simp? [kV]) (by simp? [kV]) (by simp? [kV]) (by simp? [kV]) (by simp? [hF]) (by simp? [kV]) (by rw [upd_same]) RD LB hm hb hf hO hOm (fun y hy => absurd ⟨y, hy⟩ q) (fun z => rfl) (h' _)
end
end PyW
namespace PyW
/-! ### a turn of the law -/
theorem SIs.only {σ σ' : Sg} {A : SA} {s : SS} {k : Nat} {l : List Addr} (I : SIs σ A s k) (o : Only l σ σ') (h : ∀ b ∈ A.l, b ∉ l) : SIs σ' A s k :=
  I.keep fun b hb => by
    cases e : σ b with
    | none => exact absurd e (I.some b hb)
    | some v => rw [o b v e (h b hb)]
theorem DIs.only {σ σ' : Sg} {dk : Addr} {k : Nat} {l : List Addr} (I : DIs σ dk k) (o : Only l σ σ') (h : dk ∉ l) : DIs σ' dk k := by
  obtain ⟨cl, i, e, z⟩ := I
  exact ⟨cl, i, o _ _ e h, z⟩
theorem DIs.more {σ : Sg} {dk : Addr} {k m : Nat} (I : DIs σ dk k) (h : k ≤ m) : DIs σ dk m := by
  obtain ⟨cl, i, e, z⟩ := I
  exact ⟨cl, i, e, Nat.le_trans z h⟩
theorem Only.nil {l : List Addr} {σ σ' : Sg} (o : Only [] σ σ') : Only l σ σ' := fun b x e _ => o b x e (by simp)
structure WS where
  dk : Addr
  r : Addr
  r2 : Addr
  d : Addr
  terms : List (Int × Nat)
  against : List (Int × Nat)
  goal : Int
  opposed : Int
  kind : String
  kind2 : String
  m : Nat
structure WOK (W : WS) : Prop where
  hm : W.m < 64
  h0 : 1 ≤ W.m
  b1 : ∀ x, (times W.terms x).natAbs < 2 ^ 30
  b2 : ∀ x, (times W.against x).natAbs < 2 ^ 30
structure FR (W : WS) (fr : Fm) (lt fl : Addr) : Prop where
  deck : fr "deck" = some (.ref W.dk)
  store : fr "store" = some (.obj "Store" W.d)
  lots : fr "lots" = some (.ref lt)
  floors : fr "floors" = some (.ref fl)
  row : fr "row" = some (.obj "Row" W.r)
  other : fr "other" = some (.obj "Row" W.r2)
  terms : fr "terms" = some (.list (W.terms.map pV))
  goal : fr "goal" = some (.int W.goal)
  against : fr "against" = some (.list (W.against.map pV))
  opposed : fr "opposed" = some (.int W.opposed)
noncomputable def frN : List String := ["deck", "store", "lots", "floors", "row", "other", "terms", "goal", "against", "opposed"]
theorem FR.set {W : WS} {fr : Fm} {lt fl : Addr} (h : FR W fr lt fl) {x : String} (hx : x ∉ frN) (v : V) : FR W (PyW.upd fr x v) lt fl := by
  simp only [frN, List.mem_cons, List.not_mem_nil, or_false, not_or] at hx
  obtain ⟨h1, h2, h3, h4, h5, h6, h7, h8, h9, h10⟩ := hx
  exact ⟨by rw [upd_ne _ _ (Ne.symm h1)]; exact h.deck, by rw [upd_ne _ _ (Ne.symm h2)]; exact h.store, by rw [upd_ne _ _ (Ne.symm h3)]; exact h.lots, by rw [upd_ne _ _ (Ne.symm h4)]; exact h.floors, by rw [upd_ne _ _ (Ne.symm h5)]; exact h.row, by rw [upd_ne _ _ (Ne.symm h6)]; exact h.other, by rw [upd_ne _ _ (Ne.symm h7)]; exact h.terms, by rw [upd_ne _ _ (Ne.symm h8)]; exact h.goal, by rw [upd_ne _ _ (Ne.symm h9)]; exact h.against, by rw [upd_ne _ _ (Ne.symm h10)]; exact h.opposed⟩
/-- what is laid by at a push: where, the mark, the lots -/
structure EE where
  a : Addr
  mark : Nat
  lots : List (List Int)
structure TI (W : WS) (σ : Sg) (A : SA) (s : SS) (k : Nat) (lt fl : Addr) (es : List EE) (lots : List (List Int)) : Prop where
  I : SIs σ A s k
  d : A.d = W.d
  deck : DIs σ W.dk k
  hlt : σ lt = some (.list (lots.map lV))
  hfl : σ fl = some (.list (es.map fun e => V.ref e.a))
  R : RIs σ W.r W.kind (Pm W.terms W.m) W.goal
  R2 : RIs σ W.r2 W.kind2 (Pm W.against W.m) W.opposed
  nd : (W.dk :: W.r :: W.r2 :: lt :: fl :: es.map (·.a)).Nodup
  na : ∀ b ∈ W.dk :: W.r :: W.r2 :: lt :: fl :: es.map (·.a), b ∉ A.l
  len : lots.length = W.m
  RD : Rep s.D lots
  LB : Lots lots
  f : s.f = false
  F : (s.F.any fun d => decide (d = [])) = false ∧ s.F.length ≤ 900
  M : s.M = es.map (·.mark)
  E : ∀ e ∈ es, e.mark ≤ s.T.length ∧ σ e.a = some (.list (e.lots.map lV)) ∧ Rep (undo (s.T.drop e.mark) s.D) e.lots ∧ Lots e.lots ∧ e.lots.length = W.m
  sorted : (es.map (·.mark)).Pairwise (· ≤ ·)
  Tx : ∀ e ∈ s.T, e.x < s.D.length
/-- a step that leaves the store's words as they are -/
theorem TI.only {W : WS} {σ σ' : Sg} {A : SA} {s : SS} {k k' : Nat} {lt fl : Addr} {es : List EE} {lots : List (List Int)} (T : TI W σ A s k lt fl es lots) (o : Only [W.dk] σ σ') (hk : k ≤ k') (hd : DIs σ' W.dk k') : TI W σ' A s k' lt fl es lots := by
  have nd := T.nd
  have na := T.na
  rw [List.nodup_cons] at nd
  have n1 : ∀ b ∈ W.r :: W.r2 :: lt :: fl :: es.map (·.a), b ∉ [W.dk] := fun b hb q => by
    rw [List.mem_singleton] at q; exact nd.1 (q ▸ hb)
  have kp : ∀ b ∈ W.r :: W.r2 :: lt :: fl :: es.map (·.a), ∀ v, σ b = some v → σ' b = some v := fun b hb v e => o b v e (n1 b hb)
  exact ⟨(T.I.only o fun b hb q => by rw [List.mem_singleton] at q; exact na W.dk (by simp) (q ▸ hb)).more hk, T.d, hd, kp _ (by simp) _ T.hlt, kp _ (by simp) _ T.hfl, ⟨kp _ (by simp) _ T.R.ns⟩, ⟨kp _ (by simp) _ T.R2.ns⟩, T.nd, T.na, T.len, T.RD, T.LB, T.f, T.F, T.M, fun e he => ⟨(T.E e he).1, kp _ (by simp; exact .inr (.inr (.inr (.inr ⟨e, he, rfl⟩)))) _ (T.E e he).2.1, (T.E e he).2.2⟩, T.sorted, T.Tx⟩
theorem undo_evo {s s' : SS} (e : Evo s s') {mark : Nat} (h : mark ≤ s.T.length) : undo (s'.T.drop mark) s'.D = undo (s.T.drop mark) s.D := by
  obtain ⟨t, e1, e2, _⟩ := e.t
  rw [e1, List.drop_append_of_le_length h, undo_append, e2]
theorem Evo.dlen {s s' : SS} (e : Evo s s') : s'.D.length = s.D.length := by
  obtain ⟨t, e1, e2, _⟩ := e.t
  rw [← e2, undo_length]
theorem Evo.Tx {s s' : SS} (e : Evo s s') (h : ∀ e ∈ s.T, e.x < s.D.length) : ∀ e ∈ s'.T, e.x < s'.D.length := by
  rw [e.dlen]
  obtain ⟨t, e1, e2, e3⟩ := e.t
  intro x hx
  rw [e1, List.mem_append] at hx
  rcases hx with hx | hx
  · exact h x hx
  · exact e3 x hx
theorem Only.weak {l m : List Addr} {σ σ' : Sg} (o : Only l σ σ') (h : ∀ b ∈ l, b ∈ m) : Only m σ σ' := fun b v e n => o b v e fun q => n (h b q)
theorem TI.some {W : WS} {σ : Sg} {A : SA} {s : SS} {k : Nat} {lt fl : Addr} {es : List EE} {lots : List (List Int)} (T : TI W σ A s k lt fl es lots) : ∀ b ∈ W.dk :: W.r :: W.r2 :: lt :: fl :: es.map (·.a), ∃ v, σ b = Option.some v := by
  intro b hb
  simp only [List.mem_cons, List.mem_map] at hb
  rcases hb with rfl | rfl | rfl | rfl | rfl | ⟨e, he, rfl⟩
  · obtain ⟨_, _, e, _⟩ := T.deck; exact ⟨_, e⟩
  · exact ⟨_, T.R.ns⟩
  · exact ⟨_, T.R2.ns⟩
  · exact ⟨_, T.hlt⟩
  · exact ⟨_, T.hfl⟩
  · exact ⟨_, (T.E e he).2.1⟩
theorem TI.move {W : WS} {σ σ' : Sg} {A A' : SA} {s s' : SS} {k k' : Nat} {lt fl : Addr} {es : List EE} {lots lots' : List (List Int)} (T : TI W σ A s k lt fl es lots) (I' : SIs σ' A' s' k') (hd : A'.d = A.d) (o : Only (lt :: A.l) σ σ') (hb : ∀ b ∈ A'.l, b ∈ A.l ∨ σ b = none) (hk : k ≤ k')
    (ev : Evo s s') (hf : s'.f = false) (hlt : σ' lt = Option.some (.list (lots'.map lV))) (len : lots'.length = lots.length) (RD : Rep s'.D lots') (LB : Lots lots') : TI W σ' A' s' k' lt fl es lots' := by
  have nd := T.nd
  simp only [List.nodup_cons, List.mem_cons, not_or] at nd
  obtain ⟨⟨d1, d2, d3, d4, d5⟩, ⟨d6, d7, d8, d9⟩, ⟨d10, d11, d12⟩, ⟨d13, d14⟩, d15, _⟩ := nd
  have kp : ∀ b ∈ W.dk :: W.r :: W.r2 :: lt :: fl :: es.map (·.a), b ≠ lt → ∀ v, σ b = Option.some v → σ' b = Option.some v := fun b hb n v e => o b v e (fun q => by
    rcases List.mem_cons.mp q with q | q
    · exact n q
    · exact T.na b hb q)
  have em : ∀ e ∈ es, e.a ∈ W.dk :: W.r :: W.r2 :: lt :: fl :: es.map (·.a) := fun e he => by simp; exact .inr (.inr (.inr (.inr (.inr ⟨e, he, rfl⟩))))
  have ne : ∀ e ∈ es, e.a ≠ lt := fun e he q => d14 (by rw [← q]; exact List.mem_map.mpr ⟨e, he, rfl⟩)
  obtain ⟨cl, i, q1, q2⟩ := T.deck
  refine ⟨I', by rw [hd]; exact T.d, ⟨cl, i, kp _ (by simp) d3 _ q1, Nat.le_trans q2 hk⟩, hlt, kp _ (by simp) (Ne.symm d13) _ T.hfl, ⟨kp _ (by simp) d7 _ T.R.ns⟩, ⟨kp _ (by simp) d10 _ T.R2.ns⟩, T.nd, ?_, by rw [len]; exact T.len, RD, LB, hf, by rw [ev.F]; exact T.F, by rw [ev.M]; exact T.M, ?_, T.sorted, ev.Tx T.Tx⟩
  · intro b h q
    rcases hb b q with z | z
    · exact T.na b h z
    · obtain ⟨v, e⟩ := T.some b h
      rw [z] at e; cases e
  · intro e he
    obtain ⟨z1, z2, z3, z4, z5⟩ := T.E e he
    obtain ⟨t, w1, _, _⟩ := ev.t
    exact ⟨by rw [w1]; simp; omega, kp _ (em e he) (ne e he) _ z2, by rw [undo_evo ev z1]; exact z3, z4, z5⟩
theorem TI.pop {W : WS} {σ σ' : Sg} {A A' : SA} {s : SS} {k k' : Nat} {lt fl a : Addr} {es : List EE} {lots : List (List Int)} (T : TI W σ A s k lt fl es lots) {i : Nat} (hi : i < es.length) {e : EE} (he : es[i]? = Option.some e)
    (I' : SIs σ' A' { D := undo (s.T.drop e.mark) s.D, F := s.F, T := s.T.take e.mark, M := s.M.take i, f := false, cl := .tup [] } k') (hd : A'.d = A.d) (o : Only A.l σ σ') (hb : ∀ b ∈ A'.l, b ∈ A.l ∨ σ b = none) (hk : k ≤ k') (ha : σ' a = none) :
    TI W (PyW.upd σ' a (.list ((es.take i).map fun e => V.ref e.a))) A' { D := undo (s.T.drop e.mark) s.D, F := s.F, T := s.T.take e.mark, M := s.M.take i, f := false, cl := .tup [] } k' e.a a (es.take i) e.lots := by
  have hem : e ∈ es := List.mem_of_getElem? he
  have nd := T.nd
  have esp : es = es.take i ++ e :: es.drop (i + 1) := by
    obtain ⟨h1, h2⟩ := List.getElem?_eq_some_iff.mp he
    rw [← h2, ← List.drop_eq_getElem_cons h1, List.take_append_drop]
  have sub : ∀ x ∈ es.take i, x ∈ es := fun x hx => (List.take_subset _ _) hx
  have em : ∀ e ∈ es, e.a ∈ W.dk :: W.r :: W.r2 :: lt :: fl :: es.map (·.a) := fun e he => by simp; exact .inr (.inr (.inr (.inr (.inr ⟨e, he, rfl⟩))))
  have kp : ∀ b ∈ W.dk :: W.r :: W.r2 :: lt :: fl :: es.map (·.a), ∀ v, σ b = Option.some v → σ' b = Option.some v := fun b hb v e => o b v e (T.na b hb)
  have nea : ∀ b ∈ W.dk :: W.r :: W.r2 :: lt :: fl :: es.map (·.a), b ≠ a := fun b hb q => by
    obtain ⟨v, z⟩ := T.some b hb
    have := kp b hb v z
    rw [q, ha] at this; cases this
  have kp2 : ∀ b ∈ W.dk :: W.r :: W.r2 :: lt :: fl :: es.map (·.a), ∀ v, σ b = Option.some v → PyW.upd σ' a (.list ((es.take i).map fun e => V.ref e.a)) b = Option.some v := fun b hb v e => by
    rw [upd_ne _ _ (nea b hb)]; exact kp b hb v e
  have nA : a ∉ A'.l := I'.fresh ha
  have nA' : ∀ b ∈ W.dk :: W.r :: W.r2 :: lt :: fl :: es.map (·.a), b ∉ A'.l := fun b h q => by
    rcases hb b q with z | z
    · exact T.na b h z
    · obtain ⟨v, e⟩ := T.some b h
      rw [z] at e; cases e
  obtain ⟨cl, j, q1, q2⟩ := T.deck
  obtain ⟨z1, z2, z3, z4, z5⟩ := T.E e hem
  have srt := T.sorted
  rw [esp, List.map_append, List.pairwise_append] at srt
  have ltm : ∀ x ∈ es.take i, x.mark ≤ e.mark := fun x hx => srt.2.2 _ (List.mem_map.mpr ⟨x, hx, rfl⟩) _ (by simp)
  have lT : (s.T.take e.mark).length = e.mark := by rw [List.length_take]; omega
  refine ⟨I'.updF nA _, by rw [hd]; exact T.d, ⟨cl, j, kp2 _ (by simp) _ q1, Nat.le_trans q2 hk⟩, kp2 _ (em e hem) _ z2, upd_same _ _ _, ⟨kp2 _ (by simp) _ T.R.ns⟩, ⟨kp2 _ (by simp) _ T.R2.ns⟩, ?_, ?_, z5, z3, z4, rfl, T.F, by rw [List.map_take, T.M], fun x hx => ?_, srt.1, fun x hx => ?_⟩
  · rw [esp, List.map_append, List.map_cons] at nd
    simp only [List.nodup_cons, List.mem_cons, List.mem_append, not_or, List.nodup_append] at nd ⊢
    obtain ⟨⟨d1, d2, d3, d4, d5, d6, d7⟩, ⟨e1, e2, e3, e4, e5, e6⟩, ⟨f1, f2, f3, f4, f5⟩, _, _, g1, g2, g3⟩ := nd
    refine ⟨⟨d1, d2, d6, nea _ (by simp), d5⟩, ⟨e1, e5, nea _ (by simp), e4⟩, ⟨f4, nea _ (by simp), f3⟩, ⟨nea _ (em e hem), fun q => g3 _ q _ (.inl rfl) rfl⟩, ?_, g1⟩
    intro q
    obtain ⟨x, hx, q⟩ := List.mem_map.mp q
    exact nea _ (em x (sub x hx)) q
  · intro b h
    simp only [List.mem_cons] at h
    rcases h with rfl | rfl | rfl | rfl | rfl | h
    · exact nA' _ (by simp)
    · exact nA' _ (by simp)
    · exact nA' _ (by simp)
    · exact nA' _ (em e hem)
    · exact nA
    · obtain ⟨x, hx, q⟩ := List.mem_map.mp h
      rw [← q]; exact nA' _ (em x (sub x hx))
  · obtain ⟨y1, y2, y3, y4, y5⟩ := T.E x (sub x hx)
    refine ⟨by dsimp only; rw [lT]; exact ltm x hx, kp2 _ (em x (sub x hx)) _ y2, ?_, y4, y5⟩
    dsimp only
    rw [← undo_append, ← List.drop_append_of_le_length (by rw [lT]; exact ltm x hx), List.take_append_drop]
    exact y3
  · dsimp only at hx ⊢
    rw [undo_length]
    exact T.Tx x ((List.take_subset _ _) hx)
theorem TI.push {W : WS} {σ σ' : Sg} {A : SA} {s : SS} {k k' : Nat} {lt fl a : Addr} {es : List EE} {lots : List (List Int)} (T : TI W σ A s k lt fl es lots) (ha : σ a = none)
    (I' : SIs σ' A { s with M := s.M ++ [s.T.length] } k') (o : Only A.l (PyW.upd (PyW.upd σ a (.list (lots.map lV))) fl (.list ((es.map fun e => V.ref e.a) ++ [V.ref a]))) σ') (hk : k ≤ k') :
    TI W σ' A { s with M := s.M ++ [s.T.length] } k' lt fl (es ++ [⟨a, s.T.length, lots⟩]) lots := by
  have nd := T.nd
  have em : ∀ e ∈ es, e.a ∈ W.dk :: W.r :: W.r2 :: lt :: fl :: es.map (·.a) := fun e he => by simp; exact .inr (.inr (.inr (.inr (.inr ⟨e, he, rfl⟩))))
  have nea : ∀ b ∈ W.dk :: W.r :: W.r2 :: lt :: fl :: es.map (·.a), b ≠ a := fun b hb q => by
    obtain ⟨v, z⟩ := T.some b hb
    rw [q, ha] at z; cases z
  have naA : a ∉ A.l := T.I.fresh ha
  have kp : ∀ b ∈ W.dk :: W.r :: W.r2 :: lt :: fl :: es.map (·.a), b ≠ fl → ∀ v, σ b = Option.some v → σ' b = Option.some v := fun b hb n v e => o b v (by rw [upd_ne _ _ n, upd_ne _ _ (nea b hb)]; exact e) (T.na b hb)
  simp only [List.nodup_cons, List.mem_cons, not_or] at nd
  obtain ⟨⟨d1, d2, d3, d4, d5⟩, ⟨d6, d7, d8, d9⟩, ⟨d10, d11, d12⟩, ⟨d13, d14⟩, d15, d16⟩ := nd
  have ne : ∀ e ∈ es, e.a ≠ fl := fun e he q => d15 (by rw [← q]; exact List.mem_map.mpr ⟨e, he, rfl⟩)
  obtain ⟨cl, j, q1, q2⟩ := T.deck
  have nfa : fl ≠ a := nea _ (by simp)
  refine ⟨I', T.d, ⟨cl, j, kp _ (by simp) d4 _ q1, Nat.le_trans q2 hk⟩, kp _ (by simp) d13 _ T.hlt, ?_, ⟨kp _ (by simp) d8 _ T.R.ns⟩, ⟨kp _ (by simp) d11 _ T.R2.ns⟩, ?_, ?_, T.len, T.RD, T.LB, T.f, T.F, by rw [List.map_append, ← T.M]; rfl, fun e he => ?_, ?_, T.Tx⟩
  · rw [List.map_append]
    exact o _ _ (upd_same _ _ _) (T.na _ (by simp))
  · have na := fun e he => nea _ (em e he)
    simp only [List.map_append, List.map_cons, List.map_nil, List.nodup_cons, List.mem_cons, List.mem_append, not_or, List.nodup_append, List.not_mem_nil, not_false_eq_true, List.nodup_nil, and_true, or_false]
    refine ⟨⟨d1, d2, d3, d4, d5, nea _ (by simp)⟩, ⟨d6, d7, d8, d9, nea _ (by simp)⟩, ⟨d10, d11, d12, nea _ (by simp)⟩, ⟨d13, d14, nea _ (by simp)⟩, ⟨d15, nfa⟩, d16, trivial, ?_⟩
    rintro b hb _ rfl
    obtain ⟨e, he, rfl⟩ := List.mem_map.mp hb
    exact na e he
  · intro b hb
    simp only [List.map_append, List.map_cons, List.map_nil, List.mem_cons, List.mem_append, List.not_mem_nil, or_false] at hb
    rcases hb with h | h | h | h | h | h | h
    · exact T.na b (by simp [h])
    · exact T.na b (by simp [h])
    · exact T.na b (by simp [h])
    · exact T.na b (by simp [h])
    · exact T.na b (by simp [h])
    · exact T.na b (by simp only [List.mem_cons]; exact .inr (.inr (.inr (.inr (.inr h)))))
    · rw [h]; exact naA
  · rcases List.mem_append.mp he with he | he
    · obtain ⟨y1, y2, y3, y4, y5⟩ := T.E e he
      exact ⟨y1, kp _ (em e he) (ne e he) _ y2, y3, y4, y5⟩
    · rw [List.mem_singleton.mp he]
      refine ⟨Nat.le_refl _, o _ _ (by rw [upd_ne _ _ (Ne.symm nfa), upd_same]) naA, ?_, T.LB, T.len⟩
      dsimp only
      rw [List.drop_length]
      exact T.RD
  · rw [List.map_append, List.pairwise_append]
    refine ⟨T.sorted, by simp, fun x hx y hy => ?_⟩
    obtain ⟨e, he, rfl⟩ := List.mem_map.mp hx
    simp only [List.map_cons, List.map_nil, List.mem_singleton] at hy
    rw [hy]; exact (T.E e he).1
noncomputable def st0' : St := .ret (.bool false)
noncomputable def forBody : St → List St | .for _ _ b => b | _ => []
noncomputable def tB : List St := forBody (b_law.getD 9 st0')
noncomputable def tB1 : List St := tB.drop 1
noncomputable def tB2 : List St := tB.drop 2
noncomputable def tB3 : List St := tB.drop 3
noncomputable def tB4 : List St := tB.drop 4
noncomputable def cTest : St → E | .cond a _ _ => a | _ => .int 0
noncomputable def cThen : St → List St | .cond _ b _ => b | _ => []
noncomputable def cElse : St → List St | .cond _ _ b => b | _ => []
noncomputable def tBp : List St := cThen (tB.getD 0 st0')
noncomputable def tBc : List St := cElse (tB.getD 0 st0')
noncomputable def tBd : List St := cThen (tBc.getD 0 st0')
theorem tBc_eq : tBc = [.cond (cTest (tBc.getD 0 st0')) tBd []] := rfl
theorem tB0_eq : tB = .cond (cTest (tB.getD 0 st0')) tBp tBc :: tB1 := rfl
theorem tB1_eq : tB1 = tB1.getD 0 st0' :: tB2 := rfl
theorem tB2_eq : tB2 = tB2.getD 0 st0' :: tB3 := rfl
theorem tB3_eq : tB3 = tB3.getD 0 st0' :: tB4 := rfl
theorem pw_one {l : List Int} {u : Int} (h : l.Pairwise (· < ·)) (hu : u ∈ l) : l.filter (keepB "=" u) = [u] := by
  have kb : ∀ k x : Int, keepB "=" k x = decide (x = k) := fun k x => rfl
  induction l with
  | nil => exact nomatch hu
  | cons a l ih =>
    rw [List.pairwise_cons] at h
    rw [List.filter_cons, kb]
    by_cases q : a = u
    · subst q
      rw [if_pos (by simp)]
      congr 1
      rw [List.filter_eq_nil_iff]
      intro b hb
      have := h.1 b hb
      rw [kb]; simp; omega
    · rw [if_neg (by simpa using q)]
      rcases List.mem_cons.mp hu with z | z
      · exact absurd z.symm q
      · exact ih h.2 z
section
variable {c : Cx} (L : L2 c) {σ : Sg} {K : Fl → Fm → Sg → Prop} {A : SA} {s : SS} {k : Nat} {W : WS} (O : WOK W) {lt fl : Addr} {es : List EE} {lots : List (List Int)} {fr : Fm}
include L O
set_option maxRecDepth 100000 in
theorem turn_4 (T : TI W σ A s k lt fl es lots) (hk : k ≤ 880) (f : FR W fr lt fl) (h : ∀ fr' σ' A' s', FR W fr' lt fl → TI W σ' A' s' (k + 2) lt fl es lots → K .next fr' σ') : wSs P02 c 59 tB4 fr σ K := by
  simp? [tB4, tB, forBody, b_law, List.drop_succ_cons, List.drop_zero, List.getD_cons_zero, List.getD_cons_succ, f.store, f.row, f.terms, f.goal, f.lots]
  rw [← T.d]
  refine ⟨329, L.m_Store_push, si_no T.I _ (by decide), (push_spec (n := 0) L T.I (by omega) fun σ1 I1 o1 => ?_).more (by omega)⟩
  have nl : ∀ b ∈ W.dk :: W.r :: W.r2 :: lt :: fl :: es.map (·.a), b ∉ A.l := T.na
  have n1 := nl lt (by simp)
  have n2 := nl W.r (by simp)
  have hm := O.hm
  simp? [f.deck, f.store, f.lots, f.floors, f.row, f.other, f.terms, f.goal, f.against, f.opposed, ← T.d]
  refine ⟨_, L.n_law_part_right, (part_right_spec (n := 0) L I1 (kind := W.kind) (lots := lots) (by omega) (by rw [T.len]; exact ⟨o1 _ _ T.R.ns n2⟩) n2 (o1 _ _ T.hlt n1) n1 T.RD T.LB (by rw [T.len]; exact O.hm) O.b1 T.f fun σ2 s2 I2 o2 ev => ?_).more (by omega)⟩
  simp? [f.deck, f.store, f.lots, f.floors, f.row, f.other, f.terms, f.goal, f.against, f.opposed, ← T.d]
  have eM : s2.M = s.M ++ [s.T.length] := ev.M
  have eF : s2.F = s.F := ev.F
  have lM : s2.M.length - 1 = s.M.length := by rw [eM]; simp
  obtain ⟨t, w1, w2, w3⟩ := ev.t
  dsimp only at w1 w2 w3
  refine ⟨336, L.m_Store_pop, si_no I2 _ (by decide), (pop_spec (n := 0) L I2 (m := 1) (by omega) (by rw [eM]; simp) (mark := s.T.length) (by rw [lM, eM]; simp) (by rw [w1]; simp) (ev.Tx T.Tx) (by rw [eF]; exact T.F.2) fun σ3 A3 I3 d3 hb o3 => ?_).more (by omega)⟩
  rw [lM, eM, eF, w1, List.drop_left, w2, List.take_left, List.take_left, T.F.1] at I3
  have oo : Only A.l σ σ3 := (o1.trans o2).trans o3
  refine h _ _ _ _ f (T.move I3 d3 (oo.weak fun b h => .tail _ h) (fun b h => ?_) (by omega) (.same rfl rfl rfl rfl) rfl (oo _ _ T.hlt n1) rfl T.RD T.LB)
  rcases hb b h with z | z
  · exact .inl z
  · cases e : σ b with
    | none => exact .inr rfl
    | some v =>
      by_cases q : b ∈ A.l
      · exact .inl q
      · have := (o1.trans o2) _ _ e q
        rw [z] at this; cases this
set_option maxRecDepth 100000 in
theorem turn_3 (T : TI W σ A s k lt fl es lots) (hk : k ≤ 880) (f : FR W fr lt fl) (fa : fr "at" = some (.int s.T.length)) (h : ∀ fr' σ' A' s', FR W fr' lt fl → TI W σ' A' s' (k + 2) lt fl es lots → K .next fr' σ') : wSs P02 c 59 tB3 fr σ K := by
  have hm := O.hm
  have I0 := T.I.ns
  rw [nsOf] at I0
  have hl : lots.length = W.m := T.len
  have rng := i_rng (σ := σ) (ok0 (show lots.length ≤ 1000 by omega))
  rw [tB3_eq]
  simp? [tB3, tB, forBody, b_law, List.drop_succ_cons, List.drop_zero, List.getD_cons_zero, List.getD_cons_succ, f.store, f.lots, fa, ← T.d, o_attr I0, fl_3, e_lenr T.I.o3, List.length_map, e_lenr T.hlt, rng, rngV0]
  refine loopC_pure (α := Nat) (fun x => V.int (x : Int)) (fun x => some (lV (valsD (dAt s.D x)))) _ _ [] (fun x hxm K' hK => ?_) ?_
  · have hxl : x < lots.length := List.mem_range.mp hxm
    simp? [f.deck, f.store, f.lots, f.floors, f.row, f.other, f.terms, f.goal, f.against, f.opposed, ← T.d]
    refine ⟨_, L.n_values, 238, L.m_Store_dom, si_no T.I _ (by decide), (dom_spec (n := 0) L T.I (dAt_some (by rw [T.RD.1]; exact hxl)) ?_).more (by omega)⟩
    simp? [f.deck, f.store, f.lots, f.floors, f.row, f.other, f.terms, f.goal, f.against, f.opposed, ← T.d]
    refine ((values_spec (n := 0) L (T.RD.ok T.LB hxl) (by rw [(T.RD.2 x hxl).2.1]; have := (T.LB x).1; omega) ?_).more (by omega))
    exact hK
  · rw [T.RD.all, List.nil_append]
    simp? [f.lots, f.store, ← T.d, rl_ref T.hlt, lVs_eq, lVs_plain]
    exact turn_4 L O T hk f h
set_option maxRecDepth 100000 in
theorem turn_2 (T : TI W σ A s k lt fl es lots) (hk : k ≤ 880) (f : FR W fr lt fl) (fa : fr "at" = some (.int s.T.length)) (h : ∀ fr' σ' A' s', FR W fr' lt fl → TI W σ' A' s' (k + 2) lt fl es lots → K .next fr' σ') : wSs P02 c 59 tB2 fr σ K := by
  have hm := O.hm
  rw [tB2_eq]
  simp? [tB2, tB, forBody, b_law, List.drop_succ_cons, List.drop_zero, List.getD_cons_zero, List.getD_cons_succ, f.store, f.lots, f.row, f.other, f.terms, f.goal, f.against, f.opposed, ← T.d]
  refine ⟨_, L.n_law_told_right, (told_right_spec (n := 0) L T.I (kind := W.kind) (lots := lots) (by rw [T.len]; exact T.R) (T.na _ (by simp)) T.hlt (T.na _ (by simp)) T.RD (by rw [T.len]; exact O.hm) (fun x => by have := O.b1 x; omega) fun σ1 o1 => ?_).more (by omega)⟩
  have T1 := T.only o1.nil (Nat.le_refl k) (T.deck.only o1 (by simp))
  simp? [f.deck, f.store, f.lots, f.floors, f.row, f.other, f.terms, f.goal, f.against, f.opposed, ← T.d]
  refine ⟨_, L.n_law_told_right, (told_right_spec (n := 0) L T1.I (kind := W.kind2) (lots := lots) (by rw [T.len]; exact T1.R2) (T.na _ (by simp)) T1.hlt (T.na _ (by simp)) T.RD (by rw [T.len]; exact O.hm) (fun x => by have := O.b2 x; omega) fun σ2 o2 => ?_).more (by omega)⟩
  have T2 := T1.only o2.nil (Nat.le_refl k) (T1.deck.only o2 (by simp))
  simp? [f.deck, f.store, f.lots, f.floors, f.row, f.other, f.terms, f.goal, f.against, f.opposed, ← T.d]
  exact turn_3 L O T2 hk f fa h
set_option maxRecDepth 100000 in
theorem turn_1 (T : TI W σ A s k lt fl es lots) (hk : k ≤ 880) (f : FR W fr lt fl) (h : ∀ fr' σ' A' s', FR W fr' lt fl → TI W σ' A' s' (k + 2) lt fl es lots → K .next fr' σ') : wSs P02 c 59 tB1 fr σ K := by
  have I0 := T.I.ns
  rw [nsOf] at I0
  rw [tB1_eq]
  simp? [tB1, tB, forBody, b_law, List.drop_succ_cons, List.drop_zero, List.getD_cons_zero, List.getD_cons_succ, f.store, ← T.d, o_attr I0, fl_3, e_lenr T.I.o3, List.length_map]
  exact turn_2 L O T hk (f.set (by decide) _) (by simp? [f.deck, f.store, f.lots, f.floors, f.row, f.other, f.terms, f.goal, f.against, f.opposed, ← T.d]) h
set_option maxRecDepth 100000 in
theorem turn_pop (T : TI W σ A s k lt fl es lots) (hk : k ≤ 850) (f : FR W fr lt fl) (he : es.length ≤ 100) (h0 : es ≠ []) (h : ∀ fr' σ' A' s' lt' fl' es' lots', es'.length ≤ es.length + 1 → FR W fr' lt' fl' → TI W σ' A' s' (k + 5) lt' fl' es' lots' → K .next fr' σ') : wSs P02 c 59 tBp fr σ K := by
  have l0 : 0 < es.length := List.length_pos_iff.mpr h0
  simp? [tBp, cThen, tB, forBody, b_law, List.drop_succ_cons, List.drop_zero, List.getD_cons_zero, List.getD_cons_succ, f.deck, f.store, f.lots, f.floors, e_lenr T.hfl, List.length_map, ← T.d]
  refine ⟨_, L.n_law_deal, (deal_spec (n := 0) L T.deck (by omega) (by omega) fun v σ1 hv d1 o1 => ?_).more (by omega)⟩
  have T1 := T.only o1 (Nat.le_succ k) d1
  obtain ⟨j, hj, hj1, hj2⟩ : ∃ j : Nat, 1 + v = (j : Int) ∧ 1 ≤ j ∧ j ≤ es.length := ⟨(1 + v).toNat, by omega, by omega, by omega⟩
  simp? [f.deck, f.store, f.lots, f.floors, f.row, f.other, f.terms, f.goal, f.against, f.opposed, ← T.d, hj]
  have hi : es.length - j < es.length := by omega
  obtain ⟨e, hE⟩ : ∃ e, es[es.length - j]? = some e := ⟨_, List.getElem?_eq_getElem hi⟩
  have lM : s.M.length = es.length := by rw [T.M, List.length_map]
  refine ⟨336, L.m_Store_pop, si_no T1.I _ (by decide), (pop_spec (n := 0) L T1.I (m := j) hj1 (by omega) (mark := e.mark) (by rw [lM, T.M, List.getElem?_map, hE]; rfl) (T1.E e (List.mem_of_getElem? hE)).1 T.Tx T.F.2 fun σ2 A2 I2 d2 hb o2 => ?_).more (by omega)⟩
  rw [T.F.1, lM] at I2
  have fl2 : σ2 fl = some (.list (es.map fun e => V.ref e.a)) := o2 _ _ T1.hfl (T.na fl (by simp))
  have ei : (es.length : Int) - (j : Int) = ((es.length - j : Nat) : Int) := by omega
  simp? [f.deck, f.store, f.lots, f.floors, f.row, f.other, f.terms, f.goal, f.against, f.opposed, ← T.d, e_lenr fl2, List.length_map, ei, o_idxr fl2, at_nat, List.getElem?_map, hE, Option.map_some, al_ref fl2, Int.toNat_natCast, Int.natCast_nonneg]
  intro a ha
  refine ⟨size4 (by decide), ?_⟩
  rw [← List.map_take]
  exact h _ _ _ _ _ _ _ _ (by simp; omega) ⟨by simp? [f.deck], by simp? [f.store], by simp? [f.lots], by simp? [f.floors], by simp? [f.row], by simp? [f.other], by simp? [f.terms], by simp? [f.goal], by simp? [f.against], by simp? [f.opposed]⟩ (T1.pop hi hE (I2.more (show k.succ ≤ k + 5 by omega)) d2 o2 hb (by omega) ha)
set_option maxRecDepth 100000 in
theorem turn_push (T : TI W σ A s k lt fl es lots) (hk : k ≤ 850) (f : FR W fr lt fl) (he : es.length ≤ 100) (h : ∀ fr' σ' A' s' lt' fl' es' lots', es'.length ≤ es.length + 1 → FR W fr' lt' fl' → TI W σ' A' s' (k + 5) lt' fl' es' lots' → K .next fr' σ') : wSs P02 c 59 tBd fr σ K := by
  have hm := O.hm
  have h0 := O.h0
  simp? [tBd, tBc, cElse, cThen, tB, forBody, b_law, List.drop_succ_cons, List.drop_zero, List.getD_cons_zero, List.getD_cons_succ, f.deck, f.store, f.lots, f.floors, e_lenr T.hlt, List.length_map, ← T.d]
  refine ⟨_, L.n_law_deal, (deal_spec (n := 0) L T.deck (by omega) (by rw [T.len]; omega) fun v1 σ1 hv1 d1 o1 => ?_).more (by omega)⟩
  have T1 := T.only o1 (Nat.le_succ k) d1
  simp? [f.deck, f.store, f.lots, f.floors, f.row, f.other, f.terms, f.goal, f.against, f.opposed, ← T.d]
  refine ⟨_, L.n_law_deal, (deal_spec (n := 0) L T1.deck (by omega) (by omega) fun w σ2 hw d2 o2 => ?_).more (by omega)⟩
  have T2 := T1.only o2 (Nat.le_succ _) d2
  simp? [f.deck, f.store, f.lots, f.floors, f.row, f.other, f.terms, f.goal, f.against, f.opposed, ← T.d, e_sapp T2.hfl, e_lstr true T2.hlt]
  refine ⟨size4 (by decide), fun a ha => ?_⟩
  have nfa : fl ≠ a := fun q => by have := T2.hfl; rw [q, ha] at this; cases this
  have hf1 : upd σ2 a (PyW.O.list (lots.map lV)) fl = some (.list (es.map fun e => V.ref e.a)) := by rw [upd_ne _ _ nfa]; exact T2.hfl
  simp? [f.deck, f.store, f.lots, f.floors, f.row, f.other, f.terms, f.goal, f.against, f.opposed, ← T.d, e_app hf1, List.length_map]
  refine ⟨size5 (by omega), ?_⟩
  have naA : a ∉ A.l := T2.I.fresh ha
  have I3 := (T2.I.updF naA (PyW.O.list (lots.map lV))).updF (T.na fl (by simp)) (PyW.O.list ((es.map fun e => V.ref e.a) ++ [V.ref a]))
  refine ⟨329, L.m_Store_push, si_no I3 _ (by decide), (push_spec (n := 0) L I3 (by omega) fun σ4 I4 o4 => ?_).more (by omega)⟩
  have T4 := T2.push ha I4 o4 (by omega)
  obtain ⟨x, hx, hxl⟩ : ∃ x : Nat, v1 = (x : Int) ∧ x < lots.length := ⟨v1.toNat, by omega, by omega⟩
  subst hx
  have la : atIdx (lots.map lV) (x : Int) = some (lV (lots.getD x [])) := by rw [at_nat, lot_at hxl]
  have n0 : (lots.getD x []).length ≠ 0 := fun q => (T4.RD.2 x hxl).2.2 (List.length_eq_zero_iff.mp q)
  simp? [f.deck, f.store, f.lots, f.floors, f.row, f.other, f.terms, f.goal, f.against, f.opposed, ← T.d, o_idxr T4.hlt, la, lV, List.length_map]
  refine ⟨_, L.n_law_deal, (deal_spec (n := 0) L T4.deck (by omega) (by omega) fun v2 σ5 hv2 d5 o5 => ?_).more (by omega)⟩
  have T5 := T4.only o5 (Nat.le_succ _) d5
  obtain ⟨y, hy, hyl⟩ : ∃ y : Nat, v2 = (y : Int) ∧ y < (lots.getD x []).length := ⟨v2.toNat, by omega, by omega⟩
  subst hy
  have lb : atIdx ((lots.getD x []).map V.int) (y : Int) = some (.int (lots.getD x [])[y]) := by rw [at_nat, List.getElem?_map, List.getElem?_eq_getElem hyl]; rfl
  simp? [f.deck, f.store, f.lots, f.floors, f.row, f.other, f.terms, f.goal, f.against, f.opposed, ← T.d, lb]
  have hu : (lots.getD x [])[y] ∈ lots.getD x [] := List.getElem_mem hyl
  have hpw : (lots.getD x []).Pairwise (· < ·) := by
    obtain ⟨⟨lo, cn⟩, e, _⟩ := T4.RD.2 x hxl
    rw [← e]; exact cn.pw
  generalize (lots.getD x [])[y] = u at *
  obtain ⟨sg, hs, hk2, hval⟩ : ∃ sg, atIdx [V.str "=", V.str "<=", V.str ">="] w = some (.str sg) ∧ keepB sg u u = true ∧ atIdx [V.list [V.int u], .list (((lots.getD x []).filter fun z => decide (z ≤ u)).map .int), .list (((lots.getD x []).filter fun z => decide (z ≥ u)).map .int)] w = some (.list (((lots.getD x []).filter (keepB sg u)).map .int)) := by
    have hw' : w = 0 ∨ w = 1 ∨ w = 2 := by omega
    rcases hw' with rfl | rfl | rfl
    · refine ⟨"=", rfl, by simp [keepB], ?_⟩
      rw [show (lots.getD x []).filter (keepB "=" u) = [u] from pw_one hpw hu]; rfl
    · exact ⟨"<=", rfl, by simp [keepB], rfl⟩
    · exact ⟨">=", rfl, by simp [keepB], rfl⟩
  have ne : (lots.getD x []).filter (keepB sg u) ≠ [] := fun q => by
    rw [List.filter_eq_nil_iff] at q
    exact q u hu hk2
  have hxD : x < s.D.length := by rw [T.RD.1]; exact hxl
  simp? [f.deck, f.store, f.lots, f.floors, f.row, f.other, f.terms, f.goal, f.against, f.opposed, ← T.d, hs]
  refine ⟨315, L.m_Store_decide, si_no T5.I _ (by decide), size4 (by decide), size4 (by decide), (decide_spec (n := 0) (x := x) (sg := sg) (kk := u) L T5.I (by omega) (dAt_some hxD) (show 2 * (dAt s.D x).length ≤ 1000 by have := T.RD.len T.LB hxl; omega) (T.RD.ne hxl ne) fun σ6 s6 I6 o6 st => ?_).more (by omega)⟩
  have hlt6 : σ6 lt = some (.list (lots.map lV)) := o6 _ _ T5.hlt (T.na lt (by simp))
  simp? [f.deck, f.store, f.lots, f.floors, f.row, f.other, f.terms, f.goal, f.against, f.opposed, ← T.d, o_idxr hlt6, la, lV]
  refine ⟨size4 (by decide), ?_⟩
  refine loopC_pure (α := Int) V.int (fun z => if z ≤ u then some (V.int z) else none) _ _ [] (fun z hz K' hK => ?_) ?_
  · simp? [f.deck, f.store, f.lots, f.floors, f.row, f.other, f.terms, f.goal, f.against, f.opposed, ← T.d]
    by_cases q : z ≤ u
    · rw [if_pos q] at hK; simp? [q]; exact hK
    · rw [if_neg q] at hK; simp? [q]; exact hK
  rw [List.nil_append, fm_if]
  simp? [f.deck, f.store, f.lots, f.floors, f.row, f.other, f.terms, f.goal, f.against, f.opposed, ← T.d, o_idxr hlt6, la, lV]
  refine loopC_pure (α := Int) V.int (fun z => if z ≥ u then some (V.int z) else none) _ _ [] (fun z hz K' hK => ?_) ?_
  · simp? [f.deck, f.store, f.lots, f.floors, f.row, f.other, f.terms, f.goal, f.against, f.opposed, ← T.d]
    by_cases q : z ≥ u
    · rw [if_pos q] at hK; simp? [q]; exact hK
    · rw [if_neg q] at hK; simp? [q]; exact hK
  rw [List.nil_append, fm_if]
  have idx : idxOf (lots.map lV) (x : Int) = some x := by
    unfold idxOf
    rw [if_pos (by omega), if_pos (by simpa using hxl)]; simp
  simp? [f.deck, f.store, f.lots, f.floors, f.row, f.other, f.terms, f.goal, f.against, f.opposed, ← T.d, hval, o_setl hlt6, idx]
  refine ⟨size4 (by decide), ?_⟩
  refine h _ _ A s6 lt fl (es ++ [⟨a, s.T.length, lots⟩]) (lots.set x ((lots.getD x []).filter (keepB sg u))) (by simp) (((f.set (by decide) _).set (by decide) _).set (by decide) _) ?_
  exact T5.move ((I6.updF (T.na lt (by simp)) _).more (by omega)) rfl ((o6.weak fun b hb => .tail _ hb).trans (Only.upd (by simp) _)) (fun b hb => .inl hb) (by omega) (st.evo (dAt_some hxD)) (by rw [st.2.2.2.1]; exact T.f) (by rw [upd_same, List.map_set]; rfl) (by simp) (by rw [st.1]; exact T.RD.set hxl ne) (T.LB.set hxl _)
set_option maxRecDepth 100000 in
theorem turn_0 (T : TI W σ A s k lt fl es lots) (hk : k ≤ 800) (f : FR W fr lt fl) {t : Nat} (ft : fr "turn" = some (.int t)) (he : es.length ≤ 100) (h : ∀ fr' σ' A' s' lt' fl' es' lots', es'.length ≤ es.length + 1 → FR W fr' lt' fl' → TI W σ' A' s' (k + 9) lt' fl' es' lots' → K .next fr' σ') : wSs P02 c 59 tB fr σ K := by
  have fin : ∀ {fr' σ' A' s' lt' fl' es' lots' k'}, k' ≤ k + 7 → es'.length ≤ es.length + 1 → FR W fr' lt' fl' → TI W σ' A' s' k' lt' fl' es' lots' → wSs P02 c 59 tB1 fr' σ' K := fun {fr' σ' A' s' lt' fl' es' lots' k'} hk' hl f' T' =>
    turn_1 L O (T'.only (.refl _ _) hk' (T'.deck.more hk')) (by omega) f' fun fr₂ σ₂ A₂ s₂ f₂ T₂ => h _ _ _ _ _ _ _ _ hl f₂ T₂
  rw [tB0_eq]
  simp? [cTest, tB, forBody, b_law, List.drop_succ_cons, List.drop_zero, List.getD_cons_zero, List.getD_cons_succ, f.deck, f.store, f.lots, f.floors, ft]
  by_cases ht : (t : Int) > 0
  · simp? [ht]
    refine ⟨_, L.n_law_deal, (deal_spec (n := 0) L T.deck (by omega) (by omega) fun v σ1 hv d1 o1 => ?_).more (by omega)⟩
    have T1 := T.only o1 (Nat.le_succ k) d1
    have pu : ∀ {k1 σ1} {K' : Fl → Fm → Sg → Prop}, k1 ≤ k + 2 → TI W σ1 A s k1 lt fl es lots → (∀ fr' σ', wSs P02 c 59 tB1 fr' σ' K → K' .next fr' σ') → wSs P02 c 59 tBc fr σ1 K' := fun {k1 σ1 K'} hk1 T1 hK' => by
      rw [tBc_eq]
      simp? [cTest, tBc, cElse, tB, forBody, b_law, List.drop_succ_cons, List.drop_zero, List.getD_cons_zero, List.getD_cons_succ, ft, ht]
      refine turn_push L O T1 (by omega) f he fun fr' σ' A' s' lt' fl' es' lots' hl f' T' => ?_
      exact hK' _ _ (fin (by omega) hl f' T')
    have po : es ≠ [] → ∀ {k1 σ1} {K' : Fl → Fm → Sg → Prop}, k1 ≤ k + 2 → TI W σ1 A s k1 lt fl es lots → (∀ fr' σ', wSs P02 c 59 tB1 fr' σ' K → K' .next fr' σ') → wSs P02 c 59 tBp fr σ1 K' := fun h0 {k1 σ1 K'} hk1 T1 hK' => by
      refine turn_pop L O T1 (by omega) f he h0 fun fr' σ' A' s' lt' fl' es' lots' hl f' T' => ?_
      exact hK' _ _ (fin (by omega) hl f' T')
    by_cases hv3 : v = 3
    · simp? [f.deck, f.store, f.lots, f.floors, f.row, f.other, f.terms, f.goal, f.against, f.opposed, ← T.d, hv3, o_ne0 _ (al_ref T1.hfl)]
      refine ⟨size4 (by decide), ?_⟩
      by_cases h0 : es = []
      · have T1' := T1
        simp? [f.deck, f.store, f.lots, f.floors, f.row, f.other, f.terms, f.goal, f.against, f.opposed, ← T.d, h0, List.map_nil, List.isEmpty_nil]
        exact pu (by omega) T1 fun _ _ z => z
      · have e1 : (es.map fun e => V.ref e.a).isEmpty = false := by cases es with | nil => exact absurd rfl h0 | cons a l => rfl
        simp? [f.deck, f.store, f.lots, f.floors, f.row, f.other, f.terms, f.goal, f.against, f.opposed, ← T.d, e1]
        exact po h0 (by omega) T1 fun _ _ z => z
    · simp? [f.deck, f.store, f.lots, f.floors, f.row, f.other, f.terms, f.goal, f.against, f.opposed, ← T.d, hv3]
      exact pu (by omega) T1 fun _ _ z => z
  · simp? [ht]
    rw [tBc_eq]
    simp? [cTest, tBc, cElse, tB, forBody, b_law, List.drop_succ_cons, List.drop_zero, List.getD_cons_zero, List.getD_cons_succ, ft, ht]
    exact fin (by omega) (by omega) f T
end
end PyW
namespace PyW
/-! ### the law, stage by stage -/
structure LI (σ : Sg) (A : SA) (s : SS) (k : Nat) (dk lt : Addr) (lots : List (List Int)) : Prop where
  I : SIs σ A s k
  deck : DIs σ dk k
  hlt : σ lt = some (.list (lots.map lV))
  ne : dk ≠ lt
  na1 : dk ∉ A.l
  na2 : lt ∉ A.l
  RD : Rep s.D lots
  LB : Lots lots
  f : s.f = false
  F : (s.F.any fun d => decide (d = [])) = false ∧ s.F.length ≤ 900
  M : s.M = []
  T : s.T = []
theorem LI.only {σ σ' : Sg} {A : SA} {s : SS} {k k' : Nat} {dk lt : Addr} {lots : List (List Int)} (T : LI σ A s k dk lt lots) (o : Only [dk] σ σ') (hk : k ≤ k') (hd : DIs σ' dk k') : LI σ' A s k' dk lt lots :=
  ⟨(T.I.only o fun b hb q => by rw [List.mem_singleton] at q; exact T.na1 (q ▸ hb)).more hk, hd, o _ _ T.hlt (by simpa using Ne.symm T.ne), T.ne, T.na1, T.na2, T.RD, T.LB, T.f, T.F, T.M, T.T⟩
noncomputable def forIt : St → I | .for _ i _ => i | _ => .over (.int 0)
noncomputable def tL9 : List St := [.for (.name "turn") (forIt (b_law.getD 9 st0')) tB, .ret (.bool true)]
theorem tL8_eq : b_law.drop 8 = b_law.getD 8 st0' :: tL9 := rfl
noncomputable def ag (kind : String) (terms : List (Int × Nat)) : List (Int × Nat) := if kind = "linear_le" then terms.map fun p => (-p.1, p.2) else terms
noncomputable def op (kind : String) (goal : Int) : Int := if kind = "linear_le" then -goal - 1 else goal
theorem times_bound (terms : List (Int × Nat)) (x : Nat) (h : ∀ p ∈ terms, p.1.natAbs ≤ 3) : (times terms x).natAbs ≤ 3 * terms.length := by
  unfold times
  induction terms with
  | nil => simp
  | cons p l ih =>
    have ih := ih fun q hq => h q (.tail _ hq)
    have hp := h p (.head _)
    rw [List.filter_cons, List.length_cons]
    split
    · rw [List.map_cons, List.sum_cons]; omega
    · omega
section
variable {c : Cx} (L : L2 c) {σ : Sg} {K : Fl → Fm → Sg → Prop} {A : SA} {s : SS} {k : Nat} {W : WS} {lt fl dk : Addr} {es : List EE} {lots : List (List Int)} {fr : Fm}
include L
set_option maxRecDepth 100000 in
theorem law_9 (O : WOK W) (T : TI W σ A s k lt fl [] lots) (hk : k ≤ 100) (f : FR W fr lt fl) (h : ∀ fr' σ', K (.ret (.bool true)) fr' σ') : wSs P02 c 59 tL9 fr σ K := by
  simp? [tL9, forIt, b_law, List.drop_succ_cons, List.drop_zero, List.getD_cons_zero, List.getD_cons_succ, f.deck]
  refine ⟨_, L.n_law_deal, (deal_spec (n := 0) L T.deck (by omega) (by omega) fun v σ1 hv d1 o1 => ?_).more (by omega)⟩
  have T1 := T.only o1 (Nat.le_succ k) d1
  obtain ⟨j, hj, hj2⟩ : ∃ j : Nat, 1 + v = (j : Int) ∧ j ≤ 6 := ⟨(1 + v).toNat, by omega, by omega⟩
  simp? [hj, i_rng (ok0 (show j ≤ 1000 by omega)), rngV0]
  refine loopS_inv (α := Nat) (fun x => V.int (x : Int)) (fun done rest fr σ' => List.range j = done ++ rest ∧ ∃ A s lt fl es lots, es.length ≤ done.length ∧ FR W fr lt fl ∧ TI W σ' A s (k + 1 + 9 * done.length) lt fl es lots) ?_ ?_ (List.range j) [] _ _ ?_
  · rintro done x rest fr σ' K ⟨hd, A, s, lt, fl, es, lots, hl, f, T⟩ kn kr
    have len := congrArg List.length hd
    simp only [List.length_append, List.length_cons, List.length_range] at len
    refine ⟨_, rfl, turn_0 L O T (by omega) (f.set (by decide) _) (t := x) (by simp? [kV]) (by omega) fun fr' σ' A' s' lt' fl' es' lots' hl' f' T' => kn _ _ ⟨by simp [hd], A', s', lt', fl', es', lots', ?_, f', ?_⟩⟩
    · simp; omega
    · have : k + 1 + 9 * (done ++ [x]).length = k + 1 + 9 * done.length + 9 := by simp; omega
      rw [this]; exact T'
  · rintro done fr σ' ⟨hd, _⟩
    simp? [kV]
    exact h _ _
  · exact ⟨by simp, A, s, lt, fl, [], lots, by simp, f, T1⟩
set_option maxRecDepth 100000 in
theorem law_8 (O : WOK W) (T : LI σ A s k W.dk lt lots) (hd : A.d = W.d) (hk : k ≤ 100) (hm : lots.length = W.m) (R : RIs σ W.r W.kind (Pm W.terms W.m) W.goal) (R2 : RIs σ W.r2 W.kind2 (Pm W.against W.m) W.opposed) (hr : W.r ≠ W.r2) (n1 : W.r ∉ A.l) (n2 : W.r2 ∉ A.l)
    (f1 : fr "deck" = some (.ref W.dk)) (f2 : fr "store" = some (.obj "Store" W.d)) (f3 : fr "lots" = some (.ref lt)) (f4 : fr "row" = some (.obj "Row" W.r)) (f5 : fr "other" = some (.obj "Row" W.r2)) (f6 : fr "terms" = some (.list (W.terms.map pV))) (f7 : fr "goal" = some (.int W.goal)) (f8 : fr "against" = some (.list (W.against.map pV))) (f9 : fr "opposed" = some (.int W.opposed))
    (h : ∀ fr' σ', K (.ret (.bool true)) fr' σ') : wSs P02 c 59 (b_law.drop 8) fr σ K := by
  rw [tL8_eq]
  simp? [f1, f2, f3, f4, f5, f6, f7, f8, f9, b_law, List.drop_succ_cons, List.drop_zero, List.getD_cons_zero, List.getD_cons_succ, List.length_nil]
  refine ⟨Nat.zero_le _, fun fl hfl => ?_⟩
  obtain ⟨cl, i, q1, q2⟩ := T.deck
  have nf : ∀ b v, σ b = some v → b ≠ fl := fun b v e q => by rw [q, hfl] at e; cases e
  have kp : ∀ b v, σ b = some v → upd σ fl (PyW.O.list []) b = some v := fun b v e => by rw [upd_ne _ _ (nf b v e)]; exact e
  have a1 : W.dk ≠ W.r := fun q => by rw [q, R.ns] at q1; cases q1
  have a2 : W.dk ≠ W.r2 := fun q => by rw [q, R2.ns] at q1; cases q1
  have a3 : W.r ≠ lt := fun q => by have := R.ns; rw [q, T.hlt] at this; cases this
  have a4 : W.r2 ≠ lt := fun q => by have := R2.ns; rw [q, T.hlt] at this; cases this
  have nfA := T.I.fresh hfl
  refine law_9 L O (A := A) (s := s) (k := k) (lt := lt) (fl := fl) (lots := lots) ⟨T.I.updF nfA _, hd, ⟨cl, i, kp _ _ q1, q2⟩, kp _ _ T.hlt, upd_same _ _ _, ⟨kp _ _ R.ns⟩, ⟨kp _ _ R2.ns⟩, ?_, ?_, hm, T.RD, T.LB, T.f, T.F, by rw [T.M]; rfl, fun e he => (nomatch he), by simp, fun e he => by rw [T.T] at he; exact (nomatch he)⟩ hk ⟨?_, ?_, ?_, ?_, ?_, ?_, ?_, ?_, ?_, ?_⟩ h
  · simp only [List.map_nil, List.nodup_cons, List.mem_cons, not_or, List.not_mem_nil, not_false_eq_true, List.nodup_nil, and_true]
    exact ⟨⟨a1, a2, T.ne, nf _ _ q1⟩, ⟨hr, a3, nf _ _ R.ns⟩, ⟨a4, nf _ _ R2.ns⟩, nf _ _ T.hlt⟩
  · intro b hb
    simp only [List.map_nil, List.mem_cons, List.not_mem_nil, or_false] at hb
    rcases hb with rfl | rfl | rfl | rfl | rfl
    · exact T.na1
    · exact n1
    · exact n2
    · exact T.na2
    · exact nfA
  · simp? [f2, f3, f4, f5, f6, f7, f8, f9, f1]
  · simp? [f1, f3, f4, f5, f6, f7, f8, f9, f2]
  · simp? [f1, f2, f4, f5, f6, f7, f8, f9, f3]
  · simp? [f1, f2, f3, f4, f5, f6, f7, f8, f9]
  · simp? [f1, f2, f3, f5, f6, f7, f8, f9, f4]
  · simp? [f1, f2, f3, f4, f6, f7, f8, f9, f5]
  · simp? [f1, f2, f3, f4, f5, f7, f8, f9, f6]
  · simp? [f1, f2, f3, f4, f5, f6, f8, f9, f7]
  · simp? [f1, f2, f3, f4, f5, f6, f7, f9, f8]
  · simp? [f1, f2, f3, f4, f5, f6, f7, f8, f9]
noncomputable def tL8 : List St := b_law.drop 8
omit L in
theorem tL6_eq : b_law.drop 6 = b_law.getD 6 st0' :: b_law.getD 7 st0' :: tL8 := rfl
noncomputable def tL6 : List St := b_law.drop 6
omit L in
theorem tL5_eq : b_law.drop 5 = b_law.getD 5 st0' :: tL6 := rfl
noncomputable def tL5 : List St := b_law.drop 5
omit L in
theorem tL4_eq : b_law.drop 4 = b_law.getD 4 st0' :: tL5 := rfl
noncomputable def tL4 : List St := b_law.drop 4
omit L in
theorem tL3_eq : b_law.drop 3 = b_law.getD 3 st0' :: tL4 := rfl
set_option maxRecDepth 100000 in
theorem law_6 (O : WOK W) (T : LI σ A s k W.dk lt lots) (hd : A.d = W.d) (hk : k ≤ 100) (hm : lots.length = W.m) (R : RIs σ W.r W.kind (Pm W.terms W.m) W.goal) (R2 : RIs σ W.r2 W.kind2 (Pm W.against W.m) W.opposed) (ha : W.against = ag W.kind W.terms) (ho : W.opposed = op W.kind W.goal) (hr : W.r ≠ W.r2) (n1 : W.r ∉ A.l) (n2 : W.r2 ∉ A.l)
    (f1 : fr "deck" = some (.ref W.dk)) (f2 : fr "store" = some (.obj "Store" W.d)) (f3 : fr "lots" = some (.ref lt)) (f4 : fr "row" = some (.obj "Row" W.r)) (f5 : fr "other" = some (.obj "Row" W.r2)) (f6 : fr "terms" = some (.list (W.terms.map pV))) (f7 : fr "goal" = some (.int W.goal)) (f8 : fr "kind" = some (.str W.kind))
    (h : ∀ fr' σ', K (.ret (.bool true)) fr' σ') : wSs P02 c 59 tL6 fr σ K := by
  rw [tL6, tL6_eq]
  simp? [f1, f2, f3, f4, f5, b_law, List.drop_succ_cons, List.drop_zero, List.getD_cons_zero, List.getD_cons_succ, f6, f7, f8]
  refine loopC_pure pV (fun p => some (pV (if W.kind = "linear_le" then (-p.1, p.2) else p))) _ _ [] (fun p hp K' hK => ?_) ?_
  · simp? [f1, f2, f3, f4, f5, f6, f7, pV, f8]
    by_cases q : W.kind = "linear_le"
    · rw [if_pos q] at hK
      simp? [f1, f2, f3, f4, f5, f6, f7, f8, q]
      exact ⟨size4 (by decide), hK⟩
    · rw [if_neg q] at hK
      simp? [f1, f2, f3, f4, f5, f6, f7, f8, q]
      exact ⟨size4 (by decide), hK⟩
  · have e : W.terms.filterMap (fun p => some (pV (if W.kind = "linear_le" then (-p.1, p.2) else p))) = W.against.map pV := by
      rw [ha, ag]
      by_cases q : W.kind = "linear_le"
      · simp only [if_pos q]
        generalize W.terms = l
        induction l with
        | nil => rfl
        | cons a l ih => simp only [List.filterMap_cons, List.map_cons, ih]
      · simp only [if_neg q]
        generalize W.terms = l
        induction l with
        | nil => rfl
        | cons a l ih => simp only [List.filterMap_cons, List.map_cons, ih]
    simp? [f1, f2, f3, f4, f5, f6, f7, f8, e, List.nil_append]
    have fin : ∀ o, o = W.opposed → wSs P02 c 59 tL8 (upd (upd fr "against" (V.list (W.against.map pV))) "opposed" (.int o)) σ K := fun o q => by
      subst q
      refine law_8 L O T hd hk hm R R2 hr n1 n2 ?_ ?_ ?_ ?_ ?_ ?_ ?_ ?_ ?_ h
      · simp? [f2, f3, f4, f5, f6, f7, f8, f1]
      · simp? [f1, f3, f4, f5, f6, f7, f8, f2]
      · simp? [f1, f2, f4, f5, f6, f7, f8, f3]
      · simp? [f1, f2, f3, f5, f6, f7, f8, f4]
      · simp? [f1, f2, f3, f4, f6, f7, f8, f5]
      · simp? [f1, f2, f3, f4, f5, f7, f8, f6]
      · simp? [f1, f2, f3, f4, f5, f6, f8, f7]
      · simp? [f1, f2, f3, f4, f5, f6, f7, f8]
      · simp? [f1, f2, f3, f4, f5, f6, f7, f8]
    rw [op] at ho
    by_cases q : W.kind = "linear_le"
    · rw [if_pos q] at ho
      rw [if_pos q]; exact fin _ ho.symm
    · rw [if_neg q] at ho
      rw [if_neg q]; exact fin _ ho.symm
/-- what is known ahead of the row -/
structure TM (terms : List (Int × Nat)) (m : Nat) : Prop where
  x : ∀ p ∈ terms, p.2 < m
  z : terms.length < 64
  b : ∀ x, (times terms x).natAbs < 2 ^ 30
omit L in
theorem ag_b {kind : String} {terms : List (Int × Nat)} {m : Nat} (T : TM terms m) (x : Nat) : (times (ag kind terms) x).natAbs < 2 ^ 30 := by
  unfold ag
  by_cases q : kind = "linear_le"
  · rw [if_pos q, times_neg, Int.natAbs_neg]; exact T.b x
  · rw [if_neg q]; exact T.b x
set_option maxRecDepth 100000 in
theorem law_4 {terms : List (Int × Nat)} {kind : String} {goal : Int} (O : TM terms lots.length) (hl : 1 ≤ lots.length ∧ lots.length ≤ 4) (T : LI σ A s k dk lt lots) (hk : k ≤ 100)
    (f1 : fr "deck" = some (.ref dk)) (f2 : fr "store" = some (.obj "Store" A.d)) (f3 : fr "lots" = some (.ref lt)) (f6 : fr "terms" = some (.list (terms.map pV))) (f7 : fr "goal" = some (.int goal)) (f8 : fr "kind" = some (.str kind))
    (h : ∀ fr' σ', K (.ret (.bool true)) fr' σ') : wSs P02 c 59 tL4 fr σ K := by
  rw [tL4, tL4_eq]
  have map1 : ∀ l : List (Int × Nat), l.filterMap (fun p => some (V.int p.1)) = l.map fun p => V.int p.1 := fun l => by induction l with | nil => rfl | cons a l ih => simp [ih]
  have map2 : ∀ l : List (Int × Nat), l.filterMap (fun p => some (natV p.2)) = l.map fun p => natV p.2 := fun l => by induction l with | nil => rfl | cons a l ih => simp [ih]
  simp? [f1, f2, f3, b_law, List.drop_succ_cons, List.drop_zero, List.getD_cons_zero, List.getD_cons_succ, f6, f7, f8]
  refine ⟨_, L.n_Row, ?_⟩
  refine loopC_pure pV (fun p => some (V.int p.1)) _ _ [] (fun p hp K' hK => ?_) ?_
  · simp? [f1, f2, f3, f6, f7, f8, pV]; exact hK
  simp? [f1, f2, f3, f8, map1, List.nil_append, f6, f7]
  refine loopC_pure pV (fun p => some (natV p.2)) _ _ [] (fun p hp K' hK => ?_) ?_
  · simp? [f1, f2, f3, f6, f7, f8, pV]; exact hK
  simp? [f1, f2, f3, f8, map2, List.nil_append, f6, f7]
  refine (row_spec (n := 0) (m := lots.length) L O.x O.z fun r σ1 R z o1 => ?_).more (by omega)
  have T1 := T.only o1.nil (Nat.le_refl k) (T.deck.only o1 (by simp))
  have n1 : r ∉ A.l := T.I.fresh z
  rw [tL5, tL5_eq]
  simp? [f1, f2, f3, f6, f7, f8, b_law, List.drop_succ_cons, List.drop_zero, List.getD_cons_zero, List.getD_cons_succ]
  refine ⟨38, L.m_Row_turned, ri_no R _ (by decide), (turned_spec (n := 0) L R (by omega) ?_ ?_).more (by omega)⟩
  · intro q r2 σ2 R2 z2 o2
    have T2 := T1.only o2.nil (Nat.le_refl k) (T1.deck.only o2 (by simp))
    have nr : r ≠ r2 := fun q => by have := R.ns; rw [q, z2] at this; cases this
    simp? [f1, f2, f3, f6, f7, f8]
    refine law_6 L (W := ⟨dk, r, r2, A.d, terms, ag kind terms, goal, op kind goal, kind, "linear_le", lots.length⟩) ⟨by dsimp only; omega, hl.1, O.b, ag_b O⟩ T2 rfl hk rfl ⟨o2 _ _ R.ns (by simp)⟩ (by dsimp only; rw [ag, op, if_pos q, if_pos q]; exact R2) rfl rfl nr n1 (T1.I.fresh z2) ?_ ?_ ?_ ?_ ?_ ?_ ?_ ?_ h
    · simp? [f2, f3, f6, f7, f8, f1]
    · simp? [f1, f3, f6, f7, f8, f2]
    · simp? [f1, f2, f6, f7, f8, f3]
    · simp? [f1, f2, f3, f6, f7, f8]
    · simp? [f1, f2, f3, f6, f7, f8]
    · simp? [f1, f2, f3, f7, f8, f6]
    · simp? [f1, f2, f3, f6, f8, f7]
    · simp? [f1, f2, f3, f6, f7, f8]
  · intro q r2 σ2 R2 z2 o2
    have T2 := T1.only o2.nil (Nat.le_refl k) (T1.deck.only o2 (by simp))
    have nr : r ≠ r2 := fun q => by have := R.ns; rw [q, z2] at this; cases this
    simp? [f1, f2, f3, f6, f7, f8]
    refine law_6 L (W := ⟨dk, r, r2, A.d, terms, ag kind terms, goal, op kind goal, kind, if kind = "linear_eq" then "linear_ne" else "linear_eq", lots.length⟩) ⟨by dsimp only; omega, hl.1, O.b, ag_b O⟩ T2 rfl hk rfl ⟨o2 _ _ R.ns (by simp)⟩ (by dsimp only; rw [ag, op, if_neg q, if_neg q]; exact R2) rfl rfl nr n1 (T1.I.fresh z2) ?_ ?_ ?_ ?_ ?_ ?_ ?_ ?_ h
    · simp? [f2, f3, f6, f7, f8, f1]
    · simp? [f1, f3, f6, f7, f8, f2]
    · simp? [f1, f2, f6, f7, f8, f3]
    · simp? [f1, f2, f3, f6, f7, f8]
    · simp? [f1, f2, f3, f6, f7, f8]
    · simp? [f1, f2, f3, f7, f8, f6]
    · simp? [f1, f2, f3, f6, f8, f7]
    · simp? [f1, f2, f3, f6, f7, f8]
noncomputable def tL3 : List St := b_law.drop 3
omit L in
theorem tL2_eq : b_law.drop 2 = b_law.getD 2 st0' :: tL3 := rfl
noncomputable def tL2 : List St := b_law.drop 2
set_option maxRecDepth 100000 in
theorem law_3 {terms : List (Int × Nat)} (O : TM terms lots.length) (hl : 1 ≤ lots.length ∧ lots.length ≤ 4) (T : LI σ A s k dk lt lots) (hk : k ≤ 90)
    (f1 : fr "deck" = some (.ref dk)) (f2 : fr "store" = some (.obj "Store" A.d)) (f3 : fr "lots" = some (.ref lt)) (f6 : fr "terms" = some (.list (terms.map pV)))
    (h : ∀ fr' σ', K (.ret (.bool true)) fr' σ') : wSs P02 c 59 tL3 fr σ K := by
  rw [tL3, tL3_eq]
  simp? [f2, f3, f6, b_law, List.drop_succ_cons, List.drop_zero, List.getD_cons_zero, List.getD_cons_succ, f1]
  refine ⟨_, L.n_law_deal, (deal_spec (n := 0) L T.deck (by omega) (by omega) fun v1 σ1 hv1 d1 o1 => ?_).more (by omega)⟩
  have T1 := T.only o1 (Nat.le_succ k) d1
  simp? [f1, f2, f3, f6]
  refine ⟨size4 (by decide), _, L.n_law_deal, (deal_spec (n := 0) L T1.deck (by omega) (by omega) fun v2 σ2 hv2 d2 o2 => ?_).more (by omega)⟩
  have T2 := T1.only o2 (Nat.le_succ _) d2
  obtain ⟨kind, hkd⟩ : ∃ kind, atIdx [V.str "linear_eq", V.str "linear_ne", V.str "linear_le"] v2 = some (.str kind) := by
    have : v2 = 0 ∨ v2 = 1 ∨ v2 = 2 := by omega
    rcases this with rfl | rfl | rfl
    · exact ⟨_, rfl⟩
    · exact ⟨_, rfl⟩
    · exact ⟨_, rfl⟩
  simp? [f1, f2, f3, f6, hkd]
  refine ⟨size4 (by decide), law_4 L (kind := kind) (goal := v1 - 4) O hl T2 (by omega) ?_ ?_ ?_ ?_ ?_ ?_ h⟩
  · simp? [f2, f3, f6, f1]
  · simp? [f1, f3, f6, f2]
  · simp? [f1, f2, f6, f3]
  · simp? [f1, f2, f3, f6]
  · simp? [f1, f2, f3, f6]
  · simp? [f1, f2, f3, f6]
set_option maxRecDepth 100000 in
theorem law_2 (hl : 1 ≤ lots.length ∧ lots.length ≤ 4) (T : LI σ A s k dk lt lots) (hk : k ≤ 50)
    (f1 : fr "deck" = some (.ref dk)) (f2 : fr "store" = some (.obj "Store" A.d)) (f3 : fr "lots" = some (.ref lt))
    (h : ∀ fr' σ', K (.ret (.bool true)) fr' σ') : wSs P02 c 59 tL2 fr σ K := by
  rw [tL2, tL2_eq]
  simp? [f2, b_law, List.drop_succ_cons, List.drop_zero, List.getD_cons_zero, List.getD_cons_succ, f1, f3]
  refine ⟨_, L.n_law_deal, (deal_spec (n := 0) L T.deck (by omega) (by omega) fun v1 σ1 hv1 d1 o1 => ?_).more (by omega)⟩
  have T1 := T.only o1 (Nat.le_succ k) d1
  simp? [f1, f2, f3]
  obtain ⟨j, hj, hj2⟩ : ∃ j : Nat, 1 + v1 = (j : Int) ∧ j ≤ 5 := ⟨(1 + v1).toNat, by omega, by omega⟩
  simp? [f1, f2, f3, hj, i_rng (ok0 (show j ≤ 1000 by omega)), rngV0]
  refine loopC_inv (α := Nat) (fun x => V.int (x : Int)) (fun done rest acc σ' => List.range j = done ++ rest ∧ ∃ terms : List (Int × Nat), acc = terms.map pV ∧ terms.length = done.length ∧ (∀ p ∈ terms, p.2 < lots.length ∧ p.1.natAbs ≤ 3) ∧ LI σ' A s (k + 1 + 2 * done.length) dk lt lots) ?_ ?_ (List.range j) [] [] _ ?_
  · rintro done x rest acc σ' K' ⟨hd, terms, rfl, ht, hp, T⟩ kn
    have len := congrArg List.length hd
    simp only [List.length_append, List.length_cons, List.length_range] at len
    simp? [f1, f2, f3]
    refine ⟨_, L.n_law_deal, (deal_spec (n := 0) L T.deck (by omega) (by omega) fun v2 σ2 hv2 d2 o2 => ?_).more (by omega)⟩
    have T2 := T.only o2 (Nat.le_succ _) d2
    simp? [f1, f2, f3, e_lenr T2.hlt, List.length_map]
    refine ⟨_, L.n_law_deal, (deal_spec (n := 0) L T2.deck (by omega) (by omega) fun v3 σ3 hv3 d3 o3 => ?_).more (by omega)⟩
    have T3 := T2.only o3 (Nat.le_succ _) d3
    obtain ⟨y, hy, hy2⟩ : ∃ y : Nat, v3 = (y : Int) ∧ y < lots.length := ⟨v3.toNat, by omega, by omega⟩
    subst hy
    simp? [f1, f2, f3]
    refine ⟨size4 (by decide), kn _ _ ⟨by simp [hd], terms ++ [(v2 - 2, y)], by simp [pV], by simp [ht], ?_, T3.only (.refl _ _) (by simp; omega) (T3.deck.more (by simp; omega))⟩⟩
    intro p hp'
    rcases List.mem_append.mp hp' with q | q
    · exact hp p q
    · rw [List.mem_singleton.mp q]; exact ⟨hy2, by dsimp only; omega⟩
  · rintro done acc σ' ⟨hd, terms, rfl, ht, hp, T⟩
    have len := congrArg List.length hd
    simp only [List.length_append, List.length_nil, List.length_range] at len
    simp? [f1, f2, f3]
    refine law_3 L (terms := terms) ⟨fun p q => (hp p q).1, by omega, fun x => ?_⟩ hl T (by omega) ?_ ?_ ?_ ?_ h
    · have := times_bound terms x fun p q => (hp p q).2
      omega
    · simp? [f2, f3, f1]
    · simp? [f1, f3, f2]
    · simp? [f1, f2, f3]
    · simp? [f1, f2, f3]
  · exact ⟨by simp, [], rfl, rfl, by simp, T1⟩
noncomputable def tA : List St := forBody (b_law.getD 1 st0')
noncomputable def tL1 : List St := .for (.name "x") (forIt (b_law.getD 1 st0')) tA :: tL2
omit L in
theorem tL0_eq : b_law = b_law.getD 0 st0' :: tL1 := rfl
set_option maxRecDepth 100000 in
theorem law_A (T : LI σ A s k dk lt lots) (hk : k ≤ 40) (hF : s.F.length = lots.length) (hl : lots.length ≤ 4) (f1 : fr "deck" = some (.ref dk)) (f2 : fr "store" = some (.obj "Store" A.d)) (f3 : fr "lots" = some (.ref lt)) (f4 : fr "x" = some (.int lots.length))
    (h : ∀ fr' σ' s' l, fr' "deck" = some (.ref dk) → fr' "store" = some (.obj "Store" A.d) → fr' "lots" = some (.ref lt) → LI σ' A s' (k + 4) dk lt (lots ++ [l]) → s'.F.length = lots.length + 1 → K .next fr' σ') : wSs P02 c 59 tA fr σ K := by
  simp? [tA, forBody, b_law, List.drop_succ_cons, List.drop_zero, List.getD_cons_zero, List.getD_cons_succ, f1, f2, f3, f4]
  refine ⟨_, L.n_law_deal, (deal_spec (n := 0) L T.deck (by omega) (by omega) fun v1 σ1 hv1 d1 o1 => ?_).more (by omega)⟩
  have T1 := T.only o1 (Nat.le_succ k) d1
  simp? [f1, f2, f3, f4]
  refine ⟨_, L.n_law_deal, (deal_spec (n := 0) L T1.deck (by omega) (by omega) fun v2 σ2 hv2 d2 o2 => ?_).more (by omega)⟩
  have T2 := T1.only o2 (Nat.le_succ _) d2
  simp? [f1, f2, f3, f4]
  refine ⟨_, L.n_law_deal, (deal_spec (n := 0) L T2.deck (by omega) (by omega) fun v3 σ3 hv3 d3 o3 => ?_).more (by omega)⟩
  have T3 := T2.only o3 (Nat.le_succ _) d3
  simp? [f1, f2, f3, f4, e_sapp T3.hlt]
  refine ⟨size4 (by decide), size4 (by decide), size4 (by decide), ?_⟩
  refine loopC_pure (α := Int) V.int (fun z => if v3 < 2 then some (V.int (v1 - 1 + z * (1 + v2))) else none) _ [1, 2] [] (fun z hz K' hK => ?_) ?_
  · by_cases q : v3 < 2
    · rw [if_pos q] at hK
      simp? [f1, f2, f3, f4, q]
      have : z = 1 ∨ z = 2 := by simpa using hz
      exact ⟨.inl (by omega), hK⟩
    · rw [if_neg q] at hK
      simp? [f1, f2, f3, f4, q]
      exact hK
  obtain ⟨l2, hl2, hl3⟩ : ∃ l2 : List Int, [1, 2].filterMap (fun z => if v3 < 2 then some (V.int (v1 - 1 + z * (1 + v2))) else none) = l2.map V.int ∧ (l2 = [] ∨ l2 = [v1 + v2, v1 + 2 * v2 + 1]) := by
    by_cases q : v3 < 2
    · refine ⟨[v1 + v2, v1 + 2 * v2 + 1], ?_, .inr rfl⟩
      have e1 : v1 - 1 + 1 * (1 + v2) = v1 + v2 := by omega
      have e2 : v1 - 1 + 2 * (1 + v2) = v1 + 2 * v2 + 1 := by omega
      simp only [List.filterMap_cons, List.filterMap_nil, if_pos q, e1, e2, List.map_cons, List.map_nil]
    · exact ⟨[], by simp [q], .inl rfl⟩
  simp? [f1, f2, f3, f4, hl2, List.nil_append]
  refine ⟨_, L.n_law_deal, (deal_spec (n := 0) L T3.deck (by omega) (by omega) fun v4 σ4 hv4 d4 o4 => ?_).more (by omega)⟩
  have T4 := T3.only o4 (Nat.le_succ _) d4
  have hj : (0 : Int) ≤ 1 + v4 := by omega
  have ll : (l2.map V.int).take (1 + v4).toNat = (l2.take (1 + v4).toNat).map V.int := (List.map_take).symm
  have lle : (l2.take (1 + v4).toNat).length ≤ 2 := by
    rcases hl3 with q | q <;> rw [q] <;> simp
    omega
  have hpw : ((v1 - 1) :: l2.take (1 + v4).toNat).Pairwise (· < ·) := by
    have : ((v1 - 1) :: l2).Pairwise (· < ·) := by
      rcases hl3 with q | q <;> rw [q] <;> simp
      omega
    exact this.sublist ((List.take_sublist _ _).cons_cons _)
  have hbd : ∀ z ∈ (v1 - 1) :: l2.take (1 + v4).toNat, z.natAbs ≤ 100 := by
    intro z hz
    have : z ∈ (v1 - 1) :: l2 := ((List.take_sublist _ _).cons_cons _).subset hz
    rcases hl3 with q | q <;> rw [q] at this <;> simp at this <;> omega
  simp? [f1, f2, f3, f4, al_list, e_app T4.hlt, ll, List.length_map, hj]
  generalize hL : l2.take (1 + v4).toNat = lr at *
  have eA : lots.map lV ++ [V.list (V.int (v1 - 1) :: lr.map V.int)] = (lots ++ [(v1 - 1) :: lr]).map lV := by rw [List.map_append]; rfl
  have hu := upd_same σ4 lt (PyW.O.list (lots.map lV ++ [V.list (V.int (v1 - 1) :: lr.map V.int)]))
  have I5 := T4.I.updF T4.na2 (PyW.O.list (lots.map lV ++ [V.list (V.int (v1 - 1) :: lr.map V.int)]))
  have at5 : atIdx (lots.map lV ++ [V.list (V.int (v1 - 1) :: lr.map V.int)]) (lots.length : Int) = some (.list (((v1 - 1) :: lr).map V.int)) := by
    rw [at_nat, List.getElem?_append_right (by simp)]; simp
  obtain ⟨vo, co⟩ := fromV_ok hpw
  have fne : fromV ((v1 - 1) :: lr) ≠ [] := fun q => by rw [q] at vo; simp [valsD] at vo
  refine ⟨size4 (by omega), size5 (by omega), 224, L.m_Store_new_var, si_no I5 _ (by decide), _, L.n_from_values, ?_⟩
  simp? [f1, f2, f3, f4, o_idxr hu, at5]
  refine (from_values_spec (n := 0) L (by simp; omega) ?_).more (by omega)
  refine (new_var_spec (n := 0) L I5 fne (by have := T.RD.1; omega) fun vv σ6 I6 o6 => ?_).more (by omega)
  obtain ⟨cl, i, q1, q2⟩ := T4.deck
  refine h _ _ _ ((v1 - 1) :: lr) ?_ ?_ ?_ ⟨I6.more (by omega), ⟨cl, i, o6 _ _ (by rw [upd_ne _ _ T.ne]; exact q1) T.na1, by omega⟩, o6 _ _ (by rw [hu, eA]) T.na2, T.ne, T.na1, T.na2, ⟨by simp [T.RD.1], fun x hx => ?_⟩, fun x => ?_, T.f, ⟨by simp [List.any_append, T.F.1, fne], by simp; omega⟩, T.M, T.T⟩ (by simp [hF])
  · simp? [f2, f3, f4, f1]
  · simp? [f1, f3, f4, f2]
  · simp? [f1, f2, f4, f3]
  · rw [List.length_append, List.length_singleton] at hx
    by_cases q : x < lots.length
    · have e1 : dAt (s.D ++ [fromV ((v1 - 1) :: lr)]) x = dAt s.D x := by
        unfold dAt
        rw [List.getD_eq_getElem?_getD, List.getD_eq_getElem?_getD, List.getElem?_append_left (by rw [T.RD.1]; exact q)]
      have e2 : (lots ++ [(v1 - 1) :: lr]).getD x [] = lots.getD x [] := by
        rw [List.getD_eq_getElem?_getD, List.getD_eq_getElem?_getD, List.getElem?_append_left q]
      rw [e1, e2]
      exact T.RD.2 x q
    · have e0 : x = lots.length := by omega
      subst e0
      have e1 : dAt (s.D ++ [fromV ((v1 - 1) :: lr)]) lots.length = fromV ((v1 - 1) :: lr) := by
        unfold dAt
        rw [List.getD_eq_getElem?_getD, ← T.RD.1, List.getElem?_append_right (Nat.le_refl _)]; simp
      have e2 : (lots ++ [(v1 - 1) :: lr]).getD lots.length [] = (v1 - 1) :: lr := by
        rw [List.getD_eq_getElem?_getD, List.getElem?_append_right (Nat.le_refl _)]; simp
      rw [e1, e2]
      exact ⟨co, vo, by simp⟩
  · by_cases q : x < lots.length
    · have e2 : (lots ++ [(v1 - 1) :: lr]).getD x [] = lots.getD x [] := by
        rw [List.getD_eq_getElem?_getD, List.getD_eq_getElem?_getD, List.getElem?_append_left q]
      rw [e2]; exact T.LB x
    · by_cases q2 : x = lots.length
      · subst q2
        have e2 : (lots ++ [(v1 - 1) :: lr]).getD lots.length [] = (v1 - 1) :: lr := by
          rw [List.getD_eq_getElem?_getD, List.getElem?_append_right (Nat.le_refl _)]; simp
        rw [e2]; exact ⟨by simp; omega, hbd⟩
      · have e2 : (lots ++ [(v1 - 1) :: lr]).getD x [] = [] := by
          rw [List.getD_eq_getElem?_getD, List.getElem?_eq_none (by simp; omega)]; rfl
        rw [e2]; simp
set_option maxRecDepth 100000 in
theorem law_1 (T : LI σ A s k dk lt []) (hk : k ≤ 10) (hF : s.F.length = 0) (f1 : fr "deck" = some (.ref dk)) (f2 : fr "store" = some (.obj "Store" A.d)) (f3 : fr "lots" = some (.ref lt))
    (h : ∀ fr' σ', K (.ret (.bool true)) fr' σ') : wSs P02 c 59 tL1 fr σ K := by
  simp? [f2, f3, tL1, forIt, b_law, List.drop_succ_cons, List.drop_zero, List.getD_cons_zero, List.getD_cons_succ, f1]
  refine ⟨_, L.n_law_deal, (deal_spec (n := 0) L T.deck (by omega) (by omega) fun v1 σ1 hv1 d1 o1 => ?_).more (by omega)⟩
  have T1 := T.only o1 (Nat.le_succ k) d1
  obtain ⟨j, hj, hj1, hj2⟩ : ∃ j : Nat, 1 + v1 = (j : Int) ∧ 1 ≤ j ∧ j ≤ 4 := ⟨(1 + v1).toNat, by omega, by omega, by omega⟩
  simp? [f1, f2, f3, hj, i_rng (ok0 (show j ≤ 1000 by omega)), rngV0]
  refine loopS_inv (α := Nat) (fun x => V.int (x : Int)) (fun done rest fr σ' => List.range j = done ++ rest ∧ fr "deck" = some (.ref dk) ∧ fr "store" = some (.obj "Store" A.d) ∧ fr "lots" = some (.ref lt) ∧ ∃ s lots, lots.length = done.length ∧ s.F.length = done.length ∧ LI σ' A s (k + 1 + 4 * done.length) dk lt lots) ?_ ?_ (List.range j) [] _ _ ?_
  · rintro done x rest fr σ' K ⟨hd, f1, f2, f3, s, lots, hl, hF, T⟩ kn kr
    have len := congrArg List.length hd
    simp only [List.length_append, List.length_cons, List.length_range] at len
    have hx : x = done.length := by
      have e1 : (List.range j)[done.length]? = some x := by rw [hd]; simp
      rw [List.getElem?_range (by omega)] at e1
      cases e1; rfl
    refine ⟨_, rfl, law_A L T (by omega) (by omega) (by omega) ?_ ?_ ?_ ?_ fun fr' σ' s' l g1 g2 g3 T' hF' => kn _ _ ⟨by simp [hd], g1, g2, g3, s', lots ++ [l], by simp [hl], by simp; omega, ?_⟩⟩
    · simp? [f2, f3, f1]
    · simp? [f1, f3, f2]
    · simp? [f1, f2, f3]
    · rw [hl, ← hx]; simp? [f1, f2, f3]
    · have : k + 1 + 4 * (done ++ [x]).length = k + 1 + 4 * done.length + 4 := by simp; omega
      rw [this]; exact T'
  · rintro done fr σ' ⟨hd, f1, f2, f3, s, lots, hl, hF, T⟩
    have len := congrArg List.length hd
    simp only [List.length_append, List.length_nil, List.length_range] at len
    exact law_2 L (by omega) T (by omega) f1 f2 f3 h
  · exact ⟨by simp, f1, f2, f3, s, [], rfl, hF, T1⟩
set_option maxRecDepth 100000 in
theorem law_0 (ns : List Int) (h63 : ns.length ≤ 63) : CallV c 60 (.ref 386) (fun _ => none) [.list (ns.map .int)] fun v _ => v = .bool true := by
  refine L.f_law rfl ?_
  rw [tL0_eq]
  simp? [b_law, p_law, List.getD_cons_zero, List.getD_cons_succ, List.length_nil]
  refine ⟨by decide, ?_⟩
  rw [← List.map_take]
  refine loopC_pure (α := Int) V.int (fun z => some (V.int (z.fmod 60060))) _ _ [] (fun z hz K' hK => ?_) ?_
  · simp? [kV]
    exact ⟨by decide, hK⟩
  have e : ∀ l : List Int, l.filterMap (fun z => some (V.int (z.fmod 60060))) = (l.map fun z => z.fmod 60060).map V.int := fun l => by
    induction l with
    | nil => rfl
    | cons a l ih => simp only [List.filterMap_cons, List.map_cons, ih]
  simp? [e, List.nil_append]
  generalize (ns.take (Int.toNat 50)).map (fun z => z.fmod 60060) = cells
  refine ⟨size4 (by decide), fun dk => ⟨_, L.n_Store, (store_spec (n := 0) L fun A σ1 I1 o1 hb => ?_).more (by omega)⟩⟩
  simp? [kV]
  refine ⟨size4 (by decide), fun lt hlt => ⟨size4 (by decide), ?_⟩⟩
  have hd1 : σ1 dk = some (PyW.O.list [V.list (cells.map V.int), V.int 0]) := o1 _ _ (upd_same _ _ _) (by simp)
  have ne : dk ≠ lt := fun q => by rw [q, hlt] at hd1; cases hd1
  refine law_1 L (A := A) (s := ⟨[], [], [], [], false, .tup []⟩) (k := 0) (dk := dk) (lt := lt) ⟨I1.updF (I1.fresh hlt) _, ⟨cells, 0, by rw [upd_ne _ _ ne]; exact hd1, Nat.le_refl _⟩, upd_same _ _ _, ne, fun q => ?_, I1.fresh hlt, ⟨rfl, fun x h => (nomatch h)⟩, fun x => by simp, rfl, ⟨rfl, by decide⟩, rfl, rfl⟩ (by omega) rfl ?_ ?_ ?_ fun _ _ => rfl
  · have := hb _ q
    rw [upd_same] at this; cases this
  · simp? [kV]
  · simp? [kV]
  · simp? [kV]
end
theorem law02 {c : Cx} (L : L2 c) (ns : List Int) (h63 : ns.length ≤ 63) : CallV c 60 (.ref 386) (fun _ => none) [.list (ns.map .int)] fun v _ => v = .bool true := law_0 (L := L) ns h63
end PyW
namespace PyW
theorem join02 {prog : Program} {w : World} {K : Frag} {s₁ : Shared} {mg mb : Str → Option Value} {fa a : Addr} {vs : List Value} {ns : List Int} {A : Around} {G : Result → Shared → Prop} (hK : F02.chk K = true)
    (KX : K.In s₁.heap) (g : s₁.heap.Ns mainGlobals mg) (b : s₁.heap.Ns builtinsNs mb) (lim : s₁.heap.NoLimit) (hb : ∀ x : Str, x ≠ "__name__" → mb x = bootBuiltins x) (hf : mg (S "law") = some (.ref fa))
    (hL : s₁.heap.IsList a vs.toArray) (hW : Well w.params s₁.heap (.ref a) (ofPy (.list (ns.map .int)))) (hI : IntsAre vs ns) (hlen : ns.length ≤ 63) (hR : Room 60 A)
    (hG : ∀ h' tk, (∀ b o, s₁.heap.get? b = some o → h'.get? b = some o) → G (.ok (.ret (.bool true))) { s₁ with heap := h', toks := tk }) :
    codeAny (model prog w) A (.call (.ref fa) ⟨[.ref a], []⟩) G s₁ := by
  obtain ⟨_, _, _, _, _, top, law⟩ := F02.parts hK
  have e : fa = 386 := by
    have := mg_of KX g law
    rw [hf] at this; simpa [F02] using this
  subst e
  let c : Cx := ⟨prog, w, K, s₁.heap, mg, mb⟩
  have O : CxOK P02 c := F02.cx (c := c) rfl hK KX g b lim hb
  obtain ⟨o386, h386⟩ := Option.isSome_iff_exists.mp top
  have I : Inv c s₁.heap (fun _ => none) (fun _ => none) := ⟨fun _ _ e => e, fun _ _ _ q => by rcases q with q | q <;> exact q rfl, fun _ _ e => (nomatch e), fun _ _ e => (nomatch e), fun _ _ e => (nomatch e), fun _ _ e => (nomatch e), ⟨386, o386, by decide, KX _ _ h386⟩⟩
  have ex : s₁.heap.get? a = some { cls := .type "list", data := .seq vs.toArray } := by
    obtain ⟨o, h1, h2, n, h3⟩ := hL
    simp only [ofPy] at hW
    cases hW with
    | list k1 k2 =>
      rw [h1] at k1
      simp only [Option.some.injEq] at k1
      subst k1
      simp only [Data.seq.injEq] at h3
      rw [h1, h3.1]
  have len := ints_len hI
  have r : RelVs c s₁.heap (own (fun _ => none) (fun _ => none)) [V.list (ns.map .int)] [.ref a] := by
    refine .cons ?_ .nil
    simp only [RelV]
    exact ⟨a, vs.toArray, 0, rfl, ex, fun q => by rcases q with q | q <;> exact q rfl, by rw [sizeLine_eq]; simp; omega, by simpa using ints_rel hI⟩
  refine codeAny_mono (law02 ⟨O, hK⟩ ns hlen A s₁ _ _ hR I r) fun q s' z => ?_
  rcases q with e | (v | _ | _ | _) <;> first | exact z.elim | skip
  obtain ⟨h', tk, v', σ', rfl, I', X', r', rfl⟩ := z
  simp only [RelV] at r'
  subst r'
  exact hG h' tk fun b o e => I'.base b o e
theorem room60 : Room 60 callerA := by
  refine ⟨?_, ?_, ?_⟩ <;> decide
noncomputable def q02 : Program := view Challenge.pw_pc0039_02 [28]
noncomputable def loose02 : List Str := (Challenge.pw_pc0039_02.main.scope.names.map (·.1)).filter fun x => !(x == "law" || startupNames.contains x)
theorem said02 : PySem.Challenge.rw_pc0039_02.wellSaid = true := by kernel_rfl
theorem run02 (w : World) (os : OsState) : (topT Challenge.pw_pc0039_02 3000 w os).map (fun s => lookT Challenge.pw_pc0039_02 q02 loose02 (fun s => xlAt q02 [] s && recOk [] s) (hookF F02).obs w.params s.abs) = some (true, openGood q02 loose02, (hookF F02).val w) := by kernel_rfl
theorem fence02 : ∀ s, fenceModules? Challenge.pw_pc0039_02 s = some s := fun s => by kernel_rfl
theorem opening02 : opening Challenge.pw_pc0039_02 = plainProg Challenge.pw_pc0039_02.main.scope.names := by kernel_rfl
theorem left02 : LeftO Challenge.pw_pc0039_02 q02 loose02 (fun s => xlAt q02 [] s && recOk [] s) (hookF F02).obs (hookF F02).val 3000 := left_of_run opening02 (by decide) fence02 run02
noncomputable def d02 : DefRec := ((defOf q02 "law").get (by kernel_rfl)).1
theorem def02 : defOf q02 "law" = some (d02, []) := by kernel_rfl
theorem name02 : d02.name = S "law" := by kernel_rfl
theorem the02 : Challenge.pw_pc0039_02.theDef "law" = some (d02.params, d02.body, d02.scope) := by kernel_rfl
theorem kw02 : kwWritten? d02.params.kwonlyargs d02.params.kw_defaults = some [] := by kernel_rfl
theorem ok02 : (chainsOk q02 && opensWell Challenge.pw_pc0039_02 && (frees PySem.Challenge.rw_pc0039_02.row.toRowW && PySem.Challenge.rw_pc0039_02.row.within.isEmpty)) = true := by kernel_rfl
end PyW
open PyW
set_option maxHeartbeats 8000000 in
theorem PySem.Challenge.cw_pc0039_02_holds : PySem.Challenge.rw_pc0039_02.Holds := by
  w_on
  refine holds_law said02 fun said => ?_
  refine W.holds_open (d := d02) (kwd := []) left02 (Hook.of _) (Hook.keeps _) (fun s e => xl_of s (Bool.and_eq_true_iff.mp e).1) XL.keeps def02 the02 kw02 (fun s e => recFacts_of (Bool.and_eq_true_iff.mp e).2) (by rfl) said ok02 ⟨rfl, rfl, rfl, rfl, rfl, by decide +kernel⟩ ?hw ?hc
  case hw => w_witness2
  intro w s₀ s₁ mg mb G Y fa o pm cd doc dV kV ho hd hcd hD hmg hg args vals as hpre hlay hrd hwl hlo
  obtain ⟨K, KX, hK⟩ := Y
  refine Ground.open G ?_
  intro T B D TE TW
  wrow_args hpre hlay hrd hwl hlo
  all_goals (
    first | refine callC_kw (enter_call ?_) | refine enter_call ?_ | refine callC_kw (enter_callW ?_) | refine enter_callW ?_ | w_how
    try refine codeAny_mono ?_ (fun _ _ g => GoodW.toG g))
  refine PyW.join02 hK KX T.g T.b T.nolimit T.builtins (name02 ▸ hmg) (by assumption) (by assumption) (by assumption) (by omega) PyW.room60 fun h' tk hk => ?_
  refine ⟨.inl ⟨.bool true, .bool true, [], rfl, fun _ => rfl, .bool true, ?_, fun _ => ⟨.nil, fun a ha => (nomatch ha)⟩⟩, hk, rfl, hg⟩
  wrow_post
