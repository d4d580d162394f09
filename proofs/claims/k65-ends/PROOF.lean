import PyProof.Rows.All
import Wide.All
import OpenK.AllK
import Wide.FinOn
import HandS.ForMost
import HandS.ForExc
import HandS.Defaults
import HandS.HeadHook2
import HandS.Lambda
import HandS.SortOrd
import HandS.IsInst
import HandS.TupAny
import HandS.Conv
import HandS.Deep
import HandS.Wide
import HandS.Text
import HandS.Style
import HandS.TupMul
import HandS.RaiseMore
import HandS.WordsDict
import HandS.Zip
import HandS.EndBits
import KE.KStateDown
import Lean
import HandS.Head0
import HandS.Head1
import HandS.Head2
import HandS.HeadEnd
import HandS.HeadHook1
import HandS.WordsExc
import HandS.Words
import PySem.Challenge.RW_fewskies_k65_whole_digits_that_end_or_st
set_option Elab.async false
set_option linter.all false
set_option maxRecDepth 100000
set_option maxHeartbeats 4000000
/-! DL: a layer of data over HandS: what a piece of Python computes on plain data, as a total function. -/
namespace DL
open PySem PySem.Spec PyProof.Rows L2
abbrev Sg := L2.St
/-- plain data; lists and dicts of it never change -/
inductive D where
  | non | bl (b : Bool) | int (i : Int) | str (x : Str)
  | tup (l : List D) | lst (l : List D) | dic (l : List (Key × D))
  | frl (l : List D) | loc (n : Nat) | gl (x : Str) | ty (n : String)
  deriving Inhabited
/-- what a changing object holds -/
inductive Ob where
  | lst (l : List D) | dic (l : List (Key × D))
  deriving Inhabited
/-- a value just made: data, or a new object that nobody else knows -/
inductive DV where
  | val (d : D) | new (o : Ob)
  deriving Inhabited
/-- a slot -/
inductive Sl where
  | no | val (d : D) | own (o : Ob)
  deriving Inhabited
def Ob.fz : Ob → D
  | .lst l => .lst l
  | .dic l => .dic l
def DV.fz : DV → D
  | .val d => d
  | .new o => o.fz
@[simp] theorem Ob.fz_lst (l : List D) : (Ob.lst l).fz = .lst l := id rfl
@[simp] theorem Ob.fz_dic (l : List (Key × D)) : (Ob.dic l).fz = .dic l := id rfl
@[simp] theorem DV.fz_val (d : D) : (DV.val d).fz = d := id rfl
@[simp] theorem DV.fz_new (o : Ob) : (DV.new o).fz = o.fz := id rfl
structure Sta where
  r : List Sl
  m : List Ob
structure Ex where
  cls : Str
  fs : List (Str × D)
inductive Res (α : Type) where
  | ok (a : α) (s : Sta)
  | exc (e : Ex) (s : Sta)
  | stk
abbrev M (α : Type) := Sta → Res α
def Res.bnd {α β : Type} (x : Res α) (f : α → M β) : Res β := match x with
  | .ok a s => f a s
  | .exc e s => .exc e s
  | .stk => .stk
@[simp] theorem Res.bnd_ok {α β : Type} (a : α) (s : Sta) (f : α → M β) : (Res.ok a s).bnd f = f a s := id rfl
@[simp] theorem Res.bnd_exc {α β : Type} (e : Ex) (s : Sta) (f : α → M β) : (Res.exc e s : Res α).bnd f = .exc e s := id rfl
@[simp] theorem Res.bnd_stk {α β : Type} (f : α → M β) : (Res.stk : Res α).bnd f = .stk := id rfl
/-- the ghost of a heap: what is frozen, where the shared objects stand -/
structure Wd where
  F : Addr → Prop
  L : List Addr
section
variable (K : PySem.W.Frag)
def StT (a : Addr) (xs : List V) : Prop := ∃ (o : Obj) (its : Array Value) (n : Nat), K.lookup a = some o ∧ o.cls = .type "tuple" ∧ o.data = .seq its n ∧ its.size ≤ sizeLine ∧ Vals xs its.toList
def FzT (w : Wd) (H : Hp) (a : Addr) (xs : List V) : Prop := (w.F a ∧ H a = some (.tup xs)) ∨ StT K a xs
def StL (a : Addr) (xs : List V) : Prop := ∃ (o : Obj) (its : Array Value) (n : Nat), K.lookup a = some o ∧ o.cls = .type "list" ∧ o.dict = none ∧ o.data = .seq its n ∧ its.size ≤ sizeLine ∧ Vals xs its.toList
def FzR (w : Wd) (H : Hp) (a : Addr) (xs : List V) : Prop := (w.F a ∧ ∃ o, H a = some (.frz o (.lst xs))) ∨ StL K a xs
def FzL (w : Wd) (H : Hp) (a : Addr) (xs : List V) : Prop := w.F a ∧ H a = some (.lst xs)
mutual
inductive Rep (w : Wd) (H : Hp) : V → D → Prop
  | non : Rep w H .non .non
  | bl (b : Bool) : Rep w H (.bl b) (.bl b)
  | int (i : Int) : Rep w H (.int i) (.int i)
  | str (x : Str) : Rep w H (.str x) (.str x)
  | tup {a : Addr} {xs : List V} {ds : List D} : FzT K w H a xs → Reps w H xs ds → Rep w H (.ref a) (.tup ds)
  | lst {a : Addr} {xs : List V} {ds : List D} : FzL w H a xs → Reps w H xs ds → Rep w H (.ref a) (.lst ds)
  | frl {a : Addr} {xs : List V} {ds : List D} : FzR K w H a xs → Reps w H xs ds → Rep w H (.ref a) (.frl ds)
  | dic {a : Addr} {kvs : List (Key × V)} {ds : List (Key × D)} : (w.F a ∧ H a = some (.dK kvs)) → RepK w H kvs ds → Rep w H (.ref a) (.dic ds)
  | loc {n : Nat} {a : Addr} : w.L[n]? = some a → Rep w H (.ref a) (.loc n)
  | gl (x : Str) : Rep w H (.ref (He.ga K x)) (.gl x)
  | ty (n : String) : Rep w H (.ty n) (.ty n)
inductive Reps (w : Wd) (H : Hp) : List V → List D → Prop
  | nil : Reps w H [] []
  | cons {v : V} {d : D} {vs : List V} {ds : List D} : Rep w H v d → Reps w H vs ds → Reps w H (v :: vs) (d :: ds)
inductive RepK (w : Wd) (H : Hp) : List (Key × V) → List (Key × D) → Prop
  | nil : RepK w H [] []
  | cons {k : Key} {v : V} {d : D} {vs : List (Key × V)} {ds : List (Key × D)} : Rep w H v d → RepK w H vs ds → RepK w H ((k, v) :: vs) ((k, d) :: ds)
end
end
/-- later: more is frozen, what was frozen stands -/
structure Ltr (w : Wd) (H : Hp) (w' : Wd) (H' : Hp) : Prop where
  F : ∀ a, w.F a → w'.F a
  L : w.L <+: w'.L
  kp : ∀ a o, w.F a → H a = some o → H' a = some o
theorem Ltr.refl {w : Wd} {H : Hp} : Ltr w H w H := ⟨fun _ h => h, List.prefix_refl _, fun _ _ _ h => h⟩
theorem Ltr.trans {w w1 w2 : Wd} {H H1 H2 : Hp} (a : Ltr w H w1 H1) (b : Ltr w1 H1 w2 H2) : Ltr w H w2 H2 :=
  ⟨fun x h => b.F x (a.F x h), a.L.trans b.L, fun x o h e => b.kp x o (a.F x h) (a.kp x o h e)⟩
section
variable {K : PySem.W.Frag} {w w' : Wd} {H H' : Hp}
theorem Ltr.rd (l : Ltr w H w' H') {a : Addr} {u : HO} (h : w.F a ∧ H a = some u) : w'.F a ∧ H' a = some u := ⟨l.F a h.1, l.kp a _ h.1 h.2⟩
theorem Ltr.at_ (l : Ltr w H w' H') {n : Nat} {a : Addr} (h : w.L[n]? = some a) : w'.L[n]? = some a := by
  obtain ⟨t, e⟩ := l.L
  obtain ⟨h1, _⟩ := List.getElem?_eq_some_iff.mp h
  rw [← e, List.getElem?_append_left h1]
  exact h
mutual
theorem Rep.later (l : Ltr w H w' H') : ∀ {v : V} {d : D}, Rep K w H v d → Rep K w' H' v d
  | _, _, .non => .non
  | _, _, .bl b => .bl b
  | _, _, .int i => .int i
  | _, _, .str x => .str x
  | _, _, .tup h r => .tup (h.imp l.rd id) (Reps.later l r)
  | _, _, .lst h r => .lst (l.rd h) (Reps.later l r)
  | _, _, .frl h r => .frl (h.imp (fun z => ⟨l.F _ z.1, z.2.imp fun _ e => l.kp _ _ z.1 e⟩) id) (Reps.later l r)
  | _, _, .dic h r => .dic (l.rd h) (RepK.later l r)
  | _, _, .loc h => .loc (l.at_ h)
  | _, _, .gl x => .gl x
  | _, _, .ty n => .ty n
theorem Reps.later (l : Ltr w H w' H') : ∀ {vs : List V} {ds : List D}, Reps K w H vs ds → Reps K w' H' vs ds
  | _, _, .nil => .nil
  | _, _, .cons r t => .cons (Rep.later l r) (Reps.later l t)
theorem RepK.later (l : Ltr w H w' H') : ∀ {vs : List (Key × V)} {ds : List (Key × D)}, RepK K w H vs ds → RepK K w' H' vs ds
  | _, _, .nil => .nil
  | _, _, .cons r t => .cons (Rep.later l r) (RepK.later l t)
end
theorem Reps.length : ∀ {vs : List V} {ds : List D}, Reps K w H vs ds → vs.length = ds.length
  | _, _, .nil => rfl
  | _, _, .cons _ t => by simp [Reps.length t]
theorem RepK.length : ∀ {vs : List (Key × V)} {ds : List (Key × D)}, RepK K w H vs ds → vs.length = ds.length
  | _, _, .nil => rfl
  | _, _, .cons _ t => by simp [RepK.length t]
theorem Reps.get : ∀ {vs : List V} {ds : List D} {i : Nat} {d : D}, Reps K w H vs ds → ds[i]? = some d → ∃ v, vs[i]? = some v ∧ Rep K w H v d
  | _, _, _, _, .nil, e => by simp at e
  | _, _, 0, _, .cons r _, e => by simp at e; subst e; exact ⟨_, rfl, r⟩
  | _, _, i + 1, d, .cons _ t, e => by
    obtain ⟨v, h1, h2⟩ := Reps.get (i := i) (d := d) t (by simpa using e)
    exact ⟨v, by simpa using h1, h2⟩
theorem Reps.getV : ∀ {vs : List V} {ds : List D} {i : Nat} {v : V}, Reps K w H vs ds → vs[i]? = some v → ∃ d, ds[i]? = some d ∧ Rep K w H v d
  | _, _, _, _, .nil, e => by simp at e
  | _, _, 0, _, .cons r _, e => by simp at e; subst e; exact ⟨_, rfl, r⟩
  | _, _, i + 1, d, .cons _ t, e => by
    obtain ⟨v, h1, h2⟩ := Reps.getV (i := i) (v := d) t (by simpa using e)
    exact ⟨v, by simpa using h1, h2⟩
theorem Reps.append : ∀ {vs us : List V} {ds es : List D}, Reps K w H vs ds → Reps K w H us es → Reps K w H (vs ++ us) (ds ++ es)
  | _, _, _, _, .nil, s => s
  | _, _, _, _, .cons r t, s => .cons r (Reps.append t s)
theorem Reps.take : ∀ {vs : List V} {ds : List D} (n : Nat), Reps K w H vs ds → Reps K w H (vs.take n) (ds.take n)
  | _, _, 0, _ => .nil
  | _, _, _ + 1, .nil => .nil
  | _, _, n + 1, .cons r t => .cons r (Reps.take n t)
theorem Reps.drop : ∀ {vs : List V} {ds : List D} (n : Nat), Reps K w H vs ds → Reps K w H (vs.drop n) (ds.drop n)
  | _, _, 0, r => r
  | _, _, _ + 1, .nil => .nil
  | _, _, n + 1, .cons _ t => Reps.drop n t
theorem Reps.set {v : V} {d : D} (r : Rep K w H v d) : ∀ {vs : List V} {ds : List D} (i : Nat), Reps K w H vs ds → Reps K w H (vs.set i v) (ds.set i d)
  | _, _, _, .nil => .nil
  | _, _, 0, .cons _ t => .cons r t
  | _, _, i + 1, .cons q t => .cons q (Reps.set r i t)
theorem Reps.reverse : ∀ {vs : List V} {ds : List D}, Reps K w H vs ds → Reps K w H vs.reverse ds.reverse
  | _, _, .nil => .nil
  | _, _, .cons r t => by
    rw [List.reverse_cons, List.reverse_cons]
    exact (Reps.reverse t).append (.cons r .nil)
theorem Reps.one {v : V} {d : D} (r : Rep K w H v d) : Reps K w H [v] [d] := .cons r .nil
/-- ints -/
theorem Reps.ints : ∀ {ns : List Int} {vs : List V}, Reps K w H vs (ns.map D.int) → vs = ns.map V.int
  | [], _, .nil => rfl
  | n :: ns, _, .cons r t => by
    cases r
    rw [List.map_cons, Reps.ints t]
theorem Reps.of_ints : ∀ (ns : List Int), Reps K w H (ns.map V.int) (ns.map D.int)
  | [] => .nil
  | n :: ns => .cons (.int n) (Reps.of_ints ns)
theorem Reps.bls : ∀ {ns : List Bool} {vs : List V}, Reps K w H vs (ns.map D.bl) → vs = ns.map V.bl
  | [], _, .nil => rfl
  | n :: ns, _, .cons r t => by
    cases r
    rw [List.map_cons, Reps.bls t]
theorem Reps.strs : ∀ {ns : List Str} {vs : List V}, Reps K w H vs (ns.map D.str) → vs = ns.map V.str
  | [], _, .nil => rfl
  | n :: ns, _, .cons r t => by
    cases r
    rw [List.map_cons, Reps.strs t]
end
/-! ### the state -/
section
variable (K : PySem.W.Frag)
def ObAt (w : Wd) (H : Hp) (a : Addr) : Ob → Prop
  | .lst ds => ∃ xs, H a = some (.lst xs) ∧ Reps K w H xs ds
  | .dic ds => ∃ kvs, H a = some (.dK kvs) ∧ RepK K w H kvs ds
def Own (w : Wd) (r : List Sl) (σ : Sg) (a : Addr) : Prop := a ∈ w.L ∨ ∃ (i : Nat) (o : Ob), r[i]? = some (Sl.own o) ∧ σ[i]? = some (some (V.ref a))
structure Rel (w : Wd) (S : Sta) (σ : Sg) (H : Hp) : Prop where
  len : S.r.length = σ.length
  sl : ∀ (i : Nat) (d : D), S.r[i]? = some (Sl.val d) → ∃ v, σ[i]? = some (some v) ∧ Rep K w H v d
  ow : ∀ (i : Nat) (o : Ob), S.r[i]? = some (Sl.own o) → ∃ a, σ[i]? = some (some (V.ref a)) ∧ ObAt K w H a o ∧ ¬ w.F a ∧ a ∉ w.L
  inj : ∀ (i j : Nat) (o o' : Ob) (a : Addr), S.r[i]? = some (Sl.own o) → S.r[j]? = some (Sl.own o') → σ[i]? = some (some (V.ref a)) → σ[j]? = some (some (V.ref a)) → i = j
  ml : S.m.length = w.L.length
  mu : ∀ (n : Nat) (o : Ob), S.m[n]? = some o → ∃ a, w.L[n]? = some a ∧ ObAt K w H a o ∧ ¬ w.F a
  nd : w.L.Nodup
  fd : ∀ a, w.F a → H a ≠ none
end
/-- a step of the heap: what is not owned stands -/
structure Stp (w : Wd) (r : List Sl) (σ : Sg) (H : Hp) (w' : Wd) (r' : List Sl) (σ' : Sg) (H' : Hp) : Prop where
  kp : ∀ a o, H a = some o → ¬ Own w r σ a → H' a = some o
  ow : ∀ a, Own w' r' σ' a → Own w r σ a ∨ H a = none
  fz : ∀ a, w'.F a → w.F a ∨ Own w r σ a ∨ H a = none
  F : ∀ a, w.F a → w'.F a
  L : w.L <+: w'.L
  dm : ∀ a, H a ≠ none → H' a ≠ none
section
variable {K : PySem.W.Frag} {w w1 w2 : Wd} {r r1 r2 : List Sl} {σ σ1 σ2 : Sg} {H H1 H2 : Hp} {S S1 : Sta}
theorem Stp.refl : Stp w r σ H w r σ H := ⟨fun _ _ h _ => h, fun _ h => .inl h, fun _ h => .inl h, fun _ h => h, List.prefix_refl _, fun _ h => h⟩
theorem Stp.trans (a : Stp w r σ H w1 r1 σ1 H1) (b : Stp w1 r1 σ1 H1 w2 r2 σ2 H2) : Stp w r σ H w2 r2 σ2 H2 where
  kp := fun x o e n => b.kp x o (a.kp x o e n) fun h => (a.ow x h).elim n fun z => by rw [e] at z; cases z
  ow := fun x h => (b.ow x h).elim (a.ow x) fun z => .inr (Classical.byContradiction fun n => a.dm x n z)
  fz := fun x h => by
    rcases b.fz x h with h | h | z
    · exact a.fz x h
    · exact .inr (a.ow x h)
    · exact .inr (.inr (Classical.byContradiction fun n => a.dm x n z))
  F := fun x h => b.F x (a.F x h)
  L := a.L.trans b.L
  dm := fun x h => b.dm x (a.dm x h)
/-- no frozen object is owned -/
theorem Rel.sep (R : Rel K w S σ H) {a : Addr} (f : w.F a) : ¬ Own w S.r σ a := by
  rintro (h | ⟨i, o, h1, h2⟩)
  · obtain ⟨n, hn, e⟩ := List.mem_iff_getElem.mp h
    have e1 : w.L[n]? = some a := by rw [List.getElem?_eq_getElem hn, e]
    have hm : n < S.m.length := by rw [R.ml]; exact hn
    obtain ⟨a', e2, _, nf⟩ := R.mu n S.m[n] (List.getElem?_eq_getElem hm)
    rw [e1] at e2
    cases e2
    exact nf f
  · obtain ⟨a', e, _, nf, _⟩ := R.ow i o h1
    rw [h2] at e
    cases e
    exact nf f
theorem ObAt.there {a : Addr} {o : Ob} (x : ObAt K w H a o) : H a ≠ none := by
  cases o with
  | lst ds => obtain ⟨_, e, _⟩ := x; rw [e]; exact fun z => nomatch z
  | dic ds => obtain ⟨_, e, _⟩ := x; rw [e]; exact fun z => nomatch z
theorem ObAt.later {w' : Wd} {H' : Hp} {a : Addr} {o : Ob} (l : Ltr w H w' H') (k : ∀ u, H a = some u → H' a = some u) (x : ObAt K w H a o) : ObAt K w' H' a o := by
  cases o with
  | lst ds => obtain ⟨xs, e, r⟩ := x; exact ⟨xs, k _ e, r.later l⟩
  | dic ds => obtain ⟨xs, e, r⟩ := x; exact ⟨xs, k _ e, r.later l⟩
/-- what is owned is there -/
theorem Rel.owned (R : Rel K w S σ H) {a : Addr} (h : Own w S.r σ a) : H a ≠ none := by
  rcases h with h | ⟨i, o, h1, h2⟩
  · obtain ⟨n, hn, e⟩ := List.mem_iff_getElem.mp h
    have e1 : w.L[n]? = some a := by rw [List.getElem?_eq_getElem hn, e]
    have hm : n < S.m.length := by rw [R.ml]; exact hn
    obtain ⟨a', e2, x, nf⟩ := R.mu n S.m[n] (List.getElem?_eq_getElem hm)
    rw [e1] at e2
    cases e2
    exact x.there
  · obtain ⟨a', e, x, _⟩ := R.ow i o h1
    rw [h2] at e
    cases e
    exact x.there
theorem Stp.ltr (s : Stp w S.r σ H w1 r1 σ1 H1) (R : Rel K w S σ H) : Ltr w H w1 H1 := ⟨s.F, s.L, fun a o f e => s.kp a o e (R.sep f)⟩
/-- a new address -/
theorem Rel.newF (R : Rel K w S σ H) {p : Addr} (n : H p = none) : ¬ w.F p := fun f => R.fd p f n
theorem Rel.newO (R : Rel K w S σ H) {p : Addr} (n : H p = none) : ¬ Own w S.r σ p := fun f => R.owned f n
/-- the same state over a grown heap -/
theorem Rel.grow {w' : Wd} {H' : Hp} (R : Rel K w S σ H) (l : Ltr w H w' H') (hL : w'.L = w.L) (k : ∀ a o, H a = some o → Own w S.r σ a → H' a = some o) (nf : ∀ a, w'.F a → ¬ Own w S.r σ a) (fd : ∀ a, w'.F a → H' a ≠ none) : Rel K w' S σ H' where
  len := R.len
  sl := fun i d e => let ⟨v, h1, h2⟩ := R.sl i d e; ⟨v, h1, h2.later l⟩
  ow := fun i o e => by
    obtain ⟨a, h1, h2, h3, h4⟩ := R.ow i o e
    have oa : Own w S.r σ a := .inr ⟨i, o, e, h1⟩
    exact ⟨a, h1, h2.later l (fun u q => k a u q oa), fun f => nf a f oa, by rw [hL]; exact h4⟩
  inj := R.inj
  ml := by rw [hL]; exact R.ml
  mu := fun n o e => by
    obtain ⟨a, h1, h2, h3⟩ := R.mu n o e
    have oa : Own w S.r σ a := .inl (List.mem_of_getElem? h1)
    exact ⟨a, by rw [hL]; exact h1, h2.later l (fun u q => k a u q oa), fun f => nf a f oa⟩
  nd := by rw [hL]; exact R.nd
  fd := fd
/-- more is frozen -/
def Wd.add (w : Wd) (p : Addr) : Wd := { w with F := fun a => w.F a ∨ a = p }
theorem Ltr.upd {p : Addr} {o : HO} (R : Rel K w S σ H) (n : H p = none) : Ltr w H w (upd H p o) :=
  ⟨fun _ h => h, List.prefix_refl _, fun a u f e => by rw [upd_ne (ne_of_none e n)]; exact e⟩
theorem Ltr.add {p : Addr} (w : Wd) (H : Hp) : Ltr w H (w.add p) H := ⟨fun _ h => .inl h, List.prefix_refl _, fun _ _ _ e => e⟩
/-- a new object, not frozen -/
theorem Rel.laid {p : Addr} {o : HO} (R : Rel K w S σ H) (n : H p = none) : Rel K w S σ (upd H p o) ∧ Stp w S.r σ H w S.r σ (upd H p o) := by
  refine ⟨R.grow (Ltr.upd R n) rfl (fun a u e _ => by rw [upd_ne (ne_of_none e n)]; exact e) (fun a f => R.sep f) fun a f => ?_, ⟨fun a u e _ => by rw [upd_ne (ne_of_none e n)]; exact e, fun _ h => .inl h, fun _ h => .inl h, fun _ h => h, List.prefix_refl _, fun a h => ?_⟩⟩
  · unfold L2.upd
    split
    · exact fun z => nomatch z
    · exact R.fd a f
  · unfold L2.upd
    split
    · exact fun z => nomatch z
    · exact h
/-- an object that nobody owns is frozen -/
theorem Rel.froze {p : Addr} (R : Rel K w S σ H) (hp : H p ≠ none) (no : ¬ Own w S.r σ p) : Rel K (w.add p) S σ H :=
  R.grow (Ltr.add w H) rfl (fun _ _ e _ => e) (fun a f => f.elim (fun f => R.sep f) fun e => by rw [e]; exact no) fun a f => f.elim (fun f => R.fd a f) fun e => by rw [e]; exact hp
/-- a new object, frozen -/
theorem Rel.laidF {p : Addr} {o : HO} (R : Rel K w S σ H) (n : H p = none) : Rel K (w.add p) S σ (upd H p o) ∧ Stp w S.r σ H (w.add p) S.r σ (upd H p o) := by
  obtain ⟨R1, s1⟩ := R.laid (o := o) n
  refine ⟨R1.froze (by rw [upd_same]; exact fun z => nomatch z) (R.newO n), ⟨s1.kp, fun a h => s1.ow a h, fun a f => ?_, fun a f => .inl f, List.prefix_refl _, s1.dm⟩⟩
  rcases f with f | e
  · exact .inl f
  · exact .inr (.inr (by rw [e]; exact n))
end
/-! ### values -/
/-- v is dv at H; H0: the heap ahead of its making -/
def RV (K : PySem.W.Frag) (w : Wd) (r : List Sl) (σ : Sg) (H0 H : Hp) (v : V) : DV → Prop
  | .val d => Rep K w H v d
  | .new o => ∃ a, v = .ref a ∧ ObAt K w H a o ∧ ¬ w.F a ∧ ¬ Own w r σ a ∧ H0 a = none
/-- v is d for now: data, or an object that holds it -/
def Rq (K : PySem.W.Frag) (w : Wd) (H : Hp) (v : V) (d : D) : Prop := Rep K w H v d ∨ ∃ a o, v = .ref a ∧ ObAt K w H a o ∧ d = o.fz
section
variable {K : PySem.W.Frag} {w : Wd} {r : List Sl} {σ : Sg} {H H0 : Hp} {S : Sta} {v : V} {dv : DV}
theorem RV.rq (x : RV K w r σ H0 H v dv) : Rq K w H v dv.fz := by
  cases dv with
  | val d => exact .inl x
  | new o =>
    obtain ⟨a, e, x, _⟩ := x
    exact .inr ⟨a, o, e, x, rfl⟩
/-- frozen -/
theorem RV.frz (x : RV K w S.r σ H0 H v dv) (R : Rel K w S σ H) : ∃ w', Rel K w' S σ H ∧ Rep K w' H v dv.fz ∧ Ltr w H w' H ∧ ∀ w0 r0 σ0, Stp w0 r0 σ0 H0 w S.r σ H → Stp w0 r0 σ0 H0 w' S.r σ H := by
  cases dv with
  | val d => exact ⟨w, R, x, Ltr.refl, fun _ _ _ s => s⟩
  | new o =>
    obtain ⟨a, e, x, nf, no, h0⟩ := x
    subst e
    have l := Ltr.add (p := a) w H
    refine ⟨w.add a, R.froze x.there no, ?_, l, fun w0 r0 σ0 s => ⟨s.kp, s.ow, fun b f => f.elim (s.fz b) fun e => .inr (.inr (by rw [e]; exact h0)), fun b f => .inl (s.F b f), s.L, s.dm⟩⟩
    cases o with
    | lst ds =>
      obtain ⟨xs, e, q⟩ := x
      exact .lst ⟨.inr rfl, e⟩ (q.later l)
    | dic ds =>
      obtain ⟨xs, e, q⟩ := x
      exact .dic ⟨.inr rfl, e⟩ (q.later l)
theorem Rq.tup {ds : List D} (x : Rq K w H v (.tup ds)) : ∃ a xs, v = .ref a ∧ SqT K H a xs ∧ Reps K w H xs ds := by
  rcases x with x | ⟨a, o, e, x, h⟩
  · cases x with
    | tup h q => exact ⟨_, _, rfl, h.imp (fun z => .inl z.2) id, q⟩
  · cases o <;> cases h
theorem Rq.lst {ds : List D} (x : Rq K w H v (.lst ds)) : ∃ a xs, v = .ref a ∧ H a = some (.lst xs) ∧ Reps K w H xs ds := by
  rcases x with x | ⟨a, o, e, x, h⟩
  · cases x with
    | lst h q => exact ⟨_, _, rfl, h.2, q⟩
  · cases o with
    | lst ds' =>
      cases h
      obtain ⟨xs, q, rr⟩ := x
      exact ⟨a, xs, e, q, rr⟩
    | dic ds' => cases h
theorem Rq.frl {ds : List D} (x : Rq K w H v (.frl ds)) : ∃ a xs, v = .ref a ∧ SqL K H a xs ∧ Reps K w H xs ds := by
  rcases x with x | ⟨a, o, e, x, h⟩
  · cases x with
    | frl h q => exact ⟨_, _, rfl, h.imp (fun z => .inr z.2) id, q⟩
  · cases o <;> cases h
theorem Rq.int {i : Int} (x : Rq K w H v (.int i)) : v = .int i := by
  rcases x with x | ⟨a, o, e, x, h⟩
  · cases x; rfl
  · cases o <;> cases h
theorem Rq.bl {i : Bool} (x : Rq K w H v (.bl i)) : v = .bl i := by
  rcases x with x | ⟨a, o, e, x, h⟩
  · cases x; rfl
  · cases o <;> cases h
theorem Rq.str {i : Str} (x : Rq K w H v (.str i)) : v = .str i := by
  rcases x with x | ⟨a, o, e, x, h⟩
  · cases x; rfl
  · cases o <;> cases h
theorem Rq.non (x : Rq K w H v .non) : v = .non := by
  rcases x with x | ⟨a, o, e, x, h⟩
  · cases x; rfl
  · cases o <;> cases h
theorem Rq.ty {n : String} (x : Rq K w H v (.ty n)) : v = .ty n := by
  rcases x with x | ⟨a, o, e, x, h⟩
  · cases x; rfl
  · cases o <;> cases h
theorem Rq.loc {n : Nat} (x : Rq K w H v (.loc n)) : ∃ a, v = .ref a ∧ w.L[n]? = some a := by
  rcases x with x | ⟨a, o, e, x, h⟩
  · cases x with
    | loc h => exact ⟨_, rfl, h⟩
  · cases o <;> cases h
theorem Rq.gl {n : Str} (x : Rq K w H v (.gl n)) : v = .ref (He.ga K n) := by
  rcases x with x | ⟨a, o, e, x, h⟩
  · cases x; rfl
  · cases o <;> cases h
theorem Rq.dic {ds : List (Key × D)} (x : Rq K w H v (.dic ds)) : ∃ a kvs, v = .ref a ∧ H a = some (.dK kvs) ∧ RepK K w H kvs ds := by
  rcases x with x | ⟨a, o, e, x, h⟩
  · cases x with
    | dic h q => exact ⟨_, _, rfl, h.2, q⟩
  · cases o with
    | lst ds' => cases h
    | dic ds' =>
      cases h
      obtain ⟨xs, q, rr⟩ := x
      exact ⟨a, xs, e, q, rr⟩
end
end DL
namespace DL
open PySem PySem.Spec PyProof.Rows L2
/-! ### readings -/
def ExAt (K : PySem.W.Frag) (w : Wd) (H : Hp) (dx : Option Addr) (e : Ex) : Prop :=
  (e.fs = [] ∧ dx = none) ∨ ∃ p vs, dx = some p ∧ H p = some (.xd vs) ∧ vs.map (·.1) = e.fs.map (·.1) ∧ Reps K w H (vs.map (·.2)) (e.fs.map (·.2))
/-- what is wanted of an exception -/
def exW (K : PySem.W.Frag) (W : WX) (w : Wd) (r : List Sl) (σ : Sg) (H : Hp) (e : Ex) (S' : Sta) : Prop :=
  ∀ w' dx σ' H', Stp w r σ H w' S'.r σ' H' → Rel K w' S' σ' H' → ExAt K w' H' dx e → W (.ref (He.ga K e.cls)) dx σ' H'
def okD (K : PySem.W.Frag) (w : Wd) (r : List Sl) (σ : Sg) (H : Hp) (Q : VK) (dv : DV) (S' : Sta) : Prop :=
  ∀ w' v H', Stp w r σ H w' S'.r σ H' → Rel K w' S' σ H' → RV K w' S'.r σ H H' v dv → Q v H'
def okT (K : PySem.W.Frag) (w : Wd) (r : List Sl) (σ : Sg) (H : Hp) (Q : Bool → Hp → Prop) (b : Bool) (S' : Sta) : Prop :=
  ∀ w' H', Stp w r σ H w' S'.r σ H' → Rel K w' S' σ H' → Q b H'
def okA (K : PySem.W.Frag) (w : Wd) (r : List Sl) (σ : Sg) (H : Hp) (Q : List V → Hp → Prop) (ds : List D) (S' : Sta) : Prop :=
  ∀ w' vs H', Stp w r σ H w' S'.r σ H' → Rel K w' S' σ H' → Reps K w' H' vs ds → Q vs H'
def Res.to {α : Type} (x : Res α) (good : α → Sta → Prop) (bad : Ex → Sta → Prop) : Prop := match x with
  | .ok a s => good a s
  | .exc e s => bad e s
  | .stk => False
def tD (K : PySem.W.Frag) (W : WX) (f : M DV) : TE := fun σ H Q => ∃ w S, Rel K w S σ H ∧ (f S).to (okD K w S.r σ H Q) (exW K W w S.r σ H)
def tDT (K : PySem.W.Frag) (W : WX) (f : M Bool) : TT := fun σ H Q => ∃ w S, Rel K w S σ H ∧ (f S).to (okT K w S.r σ H Q) (exW K W w S.r σ H)
def tDA (K : PySem.W.Frag) (W : WX) (f : M (List D)) : TA := fun σ H Q => ∃ w S, Rel K w S σ H ∧ (f S).to (okA K w S.r σ H Q) (exW K W w S.r σ H)
abbrev DE (X : Cx) (W : WX) (e : Expr) (f : M DV) : Prop := PE X e (tD X.K W f)
abbrev DT (X : Cx) (W : WX) (e : Expr) (f : M Bool) : Prop := PT X e (tDT X.K W f)
abbrev DW (X : Cx) (W : WX) (e : Expr) (f : M Bool) : Prop := PW X e (tDT X.K W f)
abbrev DA (X : Cx) (W : WX) (es : List Expr) (f : M (List D)) : Prop := PA X es (tDA X.K W f)
section
variable {X : Cx} {e : Expr} {es : List Expr}
theorem pe_imp {t t' : TE} (h : PE X e t) (i : ∀ σ H Q, t' σ H Q → t σ H Q) : PE X e t' := ⟨fun pins s σ H Q I hw => h.run pins s σ H Q I (i _ _ _ hw)⟩
theorem pt_imp {t t' : TT} (h : PT X e t) (i : ∀ σ H Q, t' σ H Q → t σ H Q) : PT X e t' := ⟨fun pins s σ H Q I hw => h.run pins s σ H Q I (i _ _ _ hw)⟩
theorem pw_imp {t t' : TT} (h : PW X e t) (i : ∀ σ H Q, t' σ H Q → t σ H Q) : PW X e t' := ⟨fun wh pins s σ H Q I hw => h.run wh pins s σ H Q I (i _ _ _ hw)⟩
theorem pa_imp {t t' : TA} (h : PA X es t) (i : ∀ σ H Q, t' σ H Q → t σ H Q) : PA X es t' := ⟨fun pos pins s σ H Q I hw => h.run pos pins s σ H Q I (i _ _ _ hw)⟩
end
section
variable {K : PySem.W.Frag} {W : WX} {w w1 w2 : Wd} {r r1 : List Sl} {σ σ1 : Sg} {H H0 H1 H2 : Hp} {S S1 : Sta} {v : V} {dv : DV}
theorem Res.to_bnd {α β : Type} {x : Res α} {f : α → M β} {g : β → Sta → Prop} {b : Ex → Sta → Prop} (h : (x.bnd f).to g b) : x.to (fun a s => (f a s).to g b) b := by
  cases x with
  | ok a s => exact h
  | exc e s => exact h
  | stk => exact h
theorem Res.to_imp {α : Type} {x : Res α} {g g' : α → Sta → Prop} {b b' : Ex → Sta → Prop} (h : x.to g b) (hg : ∀ a s, g a s → g' a s) (hb : ∀ e s, b e s → b' e s) : x.to g' b' := by
  cases x with
  | ok a s => exact hg _ _ h
  | exc e s => exact hb _ _ h
  | stk => exact h
theorem exW.later (s : Stp w r σ H w1 r1 σ1 H1) {e : Ex} {S' : Sta} (h : exW K W w r σ H e S') : exW K W w1 r1 σ1 H1 e S' := fun w' dx σ' H' s' => h w' dx σ' H' (s.trans s')
/-- a value through a later step -/
theorem RV.later (R : Rel K w S σ H) (x : RV K w S.r σ H0 H v dv) (s : Stp w S.r σ H w1 r1 σ1 H1) : RV K w1 r1 σ1 H0 H1 v dv := by
  cases dv with
  | val d => exact Rep.later (s.ltr R) x
  | new o =>
    obtain ⟨a, e, x, nf, no, h0⟩ := x
    refine ⟨a, e, x.later (s.ltr R) (fun u q => s.kp a u q no), fun f => ?_, fun f => ?_, h0⟩
    · rcases s.fz a f with f | f | f
      · exact nf f
      · exact no f
      · exact x.there f
    · rcases s.ow a f with f | f
      · exact no f
      · exact x.there f
theorem RV.start (s : Stp w r σ H0 w1 r1 σ1 H1) {r2 : List Sl} {σ2 : Sg} (x : RV K w2 r2 σ2 H1 H2 v dv) : RV K w2 r2 σ2 H0 H2 v dv := by
  cases dv with
  | val d => exact x
  | new o =>
    obtain ⟨a, e, x, nf, no, h0⟩ := x
    exact ⟨a, e, x, nf, no, Classical.byContradiction fun n => s.dm a n h0⟩
end
/-! ### operations on values -/
/-- two values in, one out; the state stays -/
def O2 (X : Cx) (rr : R2) (g : List Ob → D → D → Option DV) : Prop := ∀ (w : Wd) (S : Sta) (σ : Sg) (H : Hp) (x y : V) (a b : D) (dv : DV) (Q : VK), Rel X.K w S σ H → Rq X.K w H x a → Rq X.K w H y b → g S.m a b = some dv →
  okD X.K w S.r σ H Q dv S → rr x y H Q
def O1 (X : Cx) (rr : V → Hp → VK → Prop) (g : List Ob → D → Option DV) : Prop := ∀ (w : Wd) (S : Sta) (σ : Sg) (H : Hp) (x : V) (a : D) (dv : DV) (Q : VK), Rel X.K w S σ H → Rq X.K w H x a → g S.m a = some dv →
  okD X.K w S.r σ H Q dv S → rr x H Q
/-- a call with values -/
def OC (X : Cx) (rr : List V → Hp → VK → Prop) (g : List Ob → List D → Option DV) : Prop := ∀ (w : Wd) (S : Sta) (σ : Sg) (H : Hp) (xs : List V) (as : List D) (dv : DV) (Q : VK), Rel X.K w S σ H → Reps X.K w H xs as → g S.m as = some dv →
  okD X.K w S.r σ H Q dv S → rr xs H Q
def oRes (o : Option DV) (S : Sta) : Res DV := match o with
  | some dv => .ok dv S
  | none => .stk
@[simp] theorem oRes_some (dv : DV) (S : Sta) : oRes (some dv) S = .ok dv S := id rfl
@[simp] theorem oRes_none (S : Sta) : oRes none S = .stk := id rfl
def mOp2 (g : List Ob → D → D → Option DV) (a b : M DV) : M DV := fun S => (a S).bnd fun x S1 => (b S1).bnd fun y S2 => oRes (g S2.m x.fz y.fz) S2
def mOp1 (g : List Ob → D → Option DV) (a : M DV) : M DV := fun S => (a S).bnd fun x S1 => oRes (g S1.m x.fz) S1
def mCB (g : List Ob → List D → Option DV) (a : M (List D)) : M DV := fun S => (a S).bnd fun xs S1 => oRes (g S1.m xs) S1
theorem oRes_to {o : Option DV} {S : Sta} {g : DV → Sta → Prop} {b : Ex → Sta → Prop} (h : (oRes o S).to g b) : ∃ dv, o = some dv ∧ g dv S := by
  cases o with
  | none => exact h.elim
  | some dv => exact ⟨dv, rfl, h⟩
section
variable {X : Cx} {W : WX} {e a b : Expr} {es : List Expr} {fa fb : M DV} {f : M (List D)}
/-- a two-place operation, by a rule of the hand layer -/
theorem de_op2 {rr : R2} {g : List Ob → D → D → Option DV} (hr : ∀ ta tb : TE, PE X a ta → PE X b tb → PE X e (tOp rr ta tb)) (o : O2 X rr g) (ha : DE X W a fa) (hb : DE X W b fb) : DE X W e (mOp2 g fa fb) := by
  refine pe_imp (hr _ _ ha hb) fun σ H Q h => ?_
  obtain ⟨w, S, R, h⟩ := h
  refine ⟨w, S, R, Res.to_imp (Res.to_bnd h) (fun x S1 h1 => ?_) fun _ _ z => z⟩
  intro w1 v H1 s1 R1 x1
  refine ⟨w1, S1, R1, Res.to_imp (Res.to_bnd h1) (fun y S2 h2 => ?_) fun _ _ z => z.later s1⟩
  intro w2 u H2 s2 R2 x2
  obtain ⟨dv, e1, h3⟩ := oRes_to h2
  refine o w2 S2 σ H2 v u x.fz y.fz dv Q R2 (x1.later R1 s2).rq x2.rq e1 ?_
  intro w3 z H3 s3 R3 x3
  exact h3 w3 z H3 ((s1.trans s2).trans s3) R3 (x3.start (s1.trans s2))
theorem de_op1 {rr : V → Hp → VK → Prop} {g : List Ob → D → Option DV} (hr : ∀ ta : TE, PE X a ta → PE X e (tUn rr ta)) (o : O1 X rr g) (ha : DE X W a fa) : DE X W e (mOp1 g fa) := by
  refine pe_imp (hr _ ha) fun σ H Q h => ?_
  obtain ⟨w, S, R, h⟩ := h
  refine ⟨w, S, R, Res.to_imp (Res.to_bnd h) (fun x S1 h1 => ?_) fun _ _ z => z⟩
  intro w1 v H1 s1 R1 x1
  obtain ⟨dv, e1, h3⟩ := oRes_to h1
  refine o w1 S1 σ H1 v x.fz dv Q R1 x1.rq e1 ?_
  intro w3 z H3 s3 R3 x3
  exact h3 w3 z H3 (s1.trans s3) R3 (x3.start s1)
theorem de_cb {rr : List V → Hp → VK → Prop} {g : List Ob → List D → Option DV} (hr : ∀ t : TA, PA X es t → PE X e (tCB rr t)) (o : OC X rr g) (ha : DA X W es f) : DE X W e (mCB g f) := by
  refine pe_imp (hr _ ha) fun σ H Q h => ?_
  obtain ⟨w, S, R, h⟩ := h
  refine ⟨w, S, R, Res.to_imp (Res.to_bnd h) (fun x S1 h1 => ?_) fun _ _ z => z⟩
  intro w1 v H1 s1 R1 x1
  obtain ⟨dv, e1, h3⟩ := oRes_to h1
  refine o w1 S1 σ H1 v x dv Q R1 x1 e1 ?_
  intro w3 z H3 s3 R3 x3
  exact h3 w3 z H3 (s1.trans s3) R3 (x3.start s1)
/-! ### names, constants -/
def mVar (i : Nat) : M DV := fun S => match S.r[i]? with
  | some (.val d) => .ok (.val d) S
  | some (.own o) => .ok (.val o.fz) ⟨S.r.set i (.val o.fz), S.m⟩
  | _ => .stk
def mC (d : D) : M DV := fun S => .ok (.val d) S
theorem ObAt.frz {K : PySem.W.Frag} {w : Wd} {H : Hp} {p : Addr} {o : Ob} (x : ObAt K w H p o) : Rep K (w.add p) H (.ref p) o.fz := by
  have l := Ltr.add (p := p) w H
  cases o with
  | lst ds => obtain ⟨xs, e, q⟩ := x; exact .lst ⟨.inr rfl, e⟩ (q.later l)
  | dic ds => obtain ⟨xs, e, q⟩ := x; exact .dic ⟨.inr rfl, e⟩ (q.later l)
/-- an owned slot is frozen -/
theorem Rel.frzSlot {K : PySem.W.Frag} {w : Wd} {S : Sta} {σ : Sg} {H : Hp} {i : Nat} {o : Ob} (R : Rel K w S σ H) (h : S.r[i]? = some (Sl.own o)) :
    ∃ p, σ[i]? = some (some (V.ref p)) ∧ Rep K (w.add p) H (.ref p) o.fz ∧ Rel K (w.add p) ⟨S.r.set i (.val o.fz), S.m⟩ σ H ∧ Stp w S.r σ H (w.add p) (S.r.set i (.val o.fz)) σ H := by
  obtain ⟨p, e1, x, nf, nl⟩ := R.ow i o h
  have hi : i < S.r.length := (List.getElem?_eq_some_iff.mp h).1
  have l := Ltr.add (p := p) w H
  have op : Own w S.r σ p := .inr ⟨i, o, h, e1⟩
  refine ⟨p, e1, x.frz, ⟨by rw [List.length_set]; exact R.len, fun j d e => ?_, fun j o' e => ?_, fun j k o1 o2 q e2 e3 => ?_, R.ml, fun n o' e => ?_, R.nd, fun q f => f.elim (R.fd q) fun z => by rw [z]; exact x.there⟩,
    ⟨fun q u e _ => e, fun q f => ?_, fun q f => f.elim .inl fun z => .inr (.inl (by rw [z]; exact op)), fun q f => .inl f, List.prefix_refl _, fun q n => n⟩⟩
  · by_cases hj : j = i
    · subst hj
      rw [List.getElem?_set_self hi] at e
      have e' : d = o.fz := by injection e with e; injection e with e; exact e.symm
      subst e'
      exact ⟨_, e1, x.frz⟩
    · rw [List.getElem?_set_ne (Ne.symm hj)] at e
      obtain ⟨v, h1, h2⟩ := R.sl j d e
      exact ⟨v, h1, h2.later l⟩
  · by_cases hj : j = i
    · subst hj
      rw [List.getElem?_set_self hi] at e
      injection e with e; cases e
    · rw [List.getElem?_set_ne (Ne.symm hj)] at e
      obtain ⟨q, h1, h2, h3, h4⟩ := R.ow j o' e
      refine ⟨q, h1, h2.later l (fun _ z => z), fun f => f.elim h3 fun z => ?_, h4⟩
      subst z
      exact hj (R.inj j i o' o q e h h1 e1)
  · have e2' : S.r[j]? = some (Sl.own o1) := by
      by_cases hj : j = i
      · subst hj; rw [List.getElem?_set_self hi] at e2; injection e2 with e2; cases e2
      · rw [List.getElem?_set_ne (Ne.symm hj)] at e2; exact e2
    have e3' : S.r[k]? = some (Sl.own o2) := by
      by_cases hj : k = i
      · subst hj; rw [List.getElem?_set_self hi] at e3; injection e3 with e3; cases e3
      · rw [List.getElem?_set_ne (Ne.symm hj)] at e3; exact e3
    exact R.inj j k o1 o2 q e2' e3'
  · obtain ⟨q, h1, h2, h3⟩ := R.mu n o' e
    refine ⟨q, h1, h2.later l (fun _ z => z), fun f => f.elim h3 fun z => ?_⟩
    subst z
    exact nl (List.mem_of_getElem? h1)
  · rcases f with f | ⟨j, o', e, q'⟩
    · exact .inl (.inl f)
    · refine .inl (.inr ⟨j, o', ?_, q'⟩)
      by_cases hj : j = i
      · subst hj; rw [List.getElem?_set_self hi] at e; injection e with e; cases e
      · rw [List.getElem?_set_ne (Ne.symm hj)] at e; exact e
theorem de_var {i : Nat} (h : PE X e (tVar i)) : DE X W e (mVar i) := by
  refine pe_imp h fun σ H Q hw => ?_
  obtain ⟨w, S, R, hw⟩ := hw
  unfold mVar at hw
  split at hw
  · rename_i d e1
    obtain ⟨v, h1, h2⟩ := R.sl i d e1
    exact ⟨v, h1, hw w v H Stp.refl R h2⟩
  · rename_i o e1
    obtain ⟨p, h1, h2, R', s⟩ := R.frzSlot e1
    exact ⟨_, h1, hw _ _ H s R' h2⟩
  · exact hw.elim
/-- a value that stands for itself anywhere -/
theorem de_c {v : V} {d : D} (h : PE X e (tC v)) (r : ∀ w H, Rep X.K w H v d) : DE X W e (mC d) := by
  refine pe_imp h fun σ H Q hw => ?_
  obtain ⟨w, S, R, hw⟩ := hw
  exact hw w v H Stp.refl R (r w H)
theorem de_int {i : Int} {j : Nat} {pos : Pos} : DE X W (.Constant (.int i) j pos) (mC (.int i)) := de_c pe_int fun _ _ => .int i
theorem de_bl {i : Bool} {j : Nat} {pos : Pos} : DE X W (.Constant (.bool i) j pos) (mC (.bl i)) := de_c pe_bl fun _ _ => .bl i
theorem de_non {j : Nat} {pos : Pos} : DE X W (.Constant .none j pos) (mC .non) := de_c pe_non fun _ _ => .non
theorem de_str {i : Str} {j : Nat} {pos : Pos} : DE X W (.Constant (.str i) j pos) (mC (.str i)) := de_c pe_str fun _ _ => .str i
/-! ### argument lists, displays -/
def mANil : M (List D) := fun S => .ok [] S
def mACons (a : M DV) (r : M (List D)) : M (List D) := fun S => (a S).bnd fun x S1 => (r S1).bnd fun xs S2 => .ok (x.fz :: xs) S2
theorem da_nil : DA X W [] mANil := by
  refine pa_imp pa_nil fun σ H Q hw => ?_
  obtain ⟨w, S, R, hw⟩ := hw
  exact hw w [] H Stp.refl R .nil
theorem da_cons (ha : DE X W e fa) (hr : DA X W es f) (hs : starEach (e :: es) X.env = (false, eval e X.env) :: starEach es X.env := by rfl) : DA X W (e :: es) (mACons fa f) := by
  refine pa_imp (pa_cons ha hr hs) fun σ H Q hw => ?_
  obtain ⟨w, S, R, h⟩ := hw
  refine ⟨w, S, R, Res.to_imp (Res.to_bnd h) (fun x S1 h1 => ?_) fun _ _ z => z⟩
  intro w1 v H1 s1 R1 x1
  obtain ⟨w1', R1', rp, _, st⟩ := x1.frz R1
  have s1' := st _ _ _ s1
  refine ⟨w1', S1, R1', Res.to_imp (Res.to_bnd h1) (fun xs S2 h2 => ?_) fun _ _ z => z.later s1'⟩
  intro w2 vs H2 s2 R2 x2
  exact h2 w2 (v :: vs) H2 (s1'.trans s2) R2 (.cons (rp.later (s2.ltr R1')) x2)
def mTup (f : M (List D)) : M DV := fun S => (f S).bnd fun ds S1 => if ds.length ≤ sizeLine then .ok (.val (.tup ds)) S1 else .stk
def mLst (f : M (List D)) : M DV := fun S => (f S).bnd fun ds S1 => if ds.length ≤ sizeLine then .ok (.new (.lst ds)) S1 else .stk
/-- a new tuple, a new list -/
theorem newTup {K : PySem.W.Frag} {w : Wd} {S : Sta} {σ : Sg} {H : Hp} {xs : List V} {ds : List D} {Q : VK} (R : Rel K w S σ H) (r : Reps K w H xs ds) (h : okD K w S.r σ H Q (.val (.tup ds)) S) (p : Addr) (np : H p = none) : Q (.ref p) (upd H p (.tup xs)) := by
  obtain ⟨R1, s1⟩ := R.laidF (o := .tup xs) np
  exact h _ _ _ s1 R1 (.tup (.inl ⟨.inr rfl, upd_same⟩) (r.later (s1.ltr R)))
theorem newLst {K : PySem.W.Frag} {w : Wd} {S : Sta} {σ : Sg} {H : Hp} {xs : List V} {ds : List D} {Q : VK} (R : Rel K w S σ H) (r : Reps K w H xs ds) (h : okD K w S.r σ H Q (.new (.lst ds)) S) (p : Addr) (np : H p = none) : Q (.ref p) (upd H p (.lst xs)) := by
  obtain ⟨R1, s1⟩ := R.laid (o := .lst xs) np
  exact h _ _ _ s1 R1 ⟨p, rfl, ⟨xs, upd_same, r.later (s1.ltr R)⟩, R.newF np, R.newO np, np⟩
theorem newDic {K : PySem.W.Frag} {w : Wd} {S : Sta} {σ : Sg} {H : Hp} {xs : List (Key × V)} {ds : List (Key × D)} {Q : VK} (R : Rel K w S σ H) (r : RepK K w H xs ds) (h : okD K w S.r σ H Q (.new (.dic ds)) S) (p : Addr) (np : H p = none) : Q (.ref p) (upd H p (.dK xs)) := by
  obtain ⟨R1, s1⟩ := R.laid (o := .dK xs) np
  exact h _ _ _ s1 R1 ⟨p, rfl, ⟨xs, upd_same, r.later (s1.ltr R)⟩, R.newF np, R.newO np, np⟩
theorem okD.later {K : PySem.W.Frag} {w w1 : Wd} {r r1 : List Sl} {σ : Sg} {H H1 : Hp} {Q : VK} {dv : DV} {S' : Sta} (s : Stp w r σ H w1 r1 σ H1) (h : okD K w r σ H Q dv S') : okD K w1 r1 σ H1 Q dv S' := fun w' v H' s' R' x => h w' v H' (s.trans s') R' (x.start s)
theorem okT.later {K : PySem.W.Frag} {w w1 : Wd} {r r1 : List Sl} {σ : Sg} {H H1 : Hp} {Q : Bool → Hp → Prop} {dv : Bool} {S' : Sta} (s : Stp w r σ H w1 r1 σ H1) (h : okT K w r σ H Q dv S') : okT K w1 r1 σ H1 Q dv S' := fun w' H' s' R' => h w' H' (s.trans s') R'
theorem de_tup {k : Nat} {pos : Pos} (h : DA X W es f) : DE X W (.Tuple es k pos) (mTup f) := by
  refine pe_imp (pe_tup h) fun σ H Q hw => ?_
  obtain ⟨w, S, R, h⟩ := hw
  refine ⟨w, S, R, Res.to_imp (Res.to_bnd h) (fun x S1 h1 => ?_) fun _ _ z => z⟩
  intro w1 vs H1 s1 R1 x1
  split at h1
  · rename_i hl
    exact ⟨by rw [x1.length]; exact hl, newTup R1 x1 (okD.later s1 h1)⟩
  · exact h1.elim
theorem de_lst {pos : Pos} (h : DA X W es f) : DE X W (.List es pos) (mLst f) := by
  refine pe_imp (pe_lst h) fun σ H Q hw => ?_
  obtain ⟨w, S, R, h⟩ := hw
  refine ⟨w, S, R, Res.to_imp (Res.to_bnd h) (fun x S1 h1 => ?_) fun _ _ z => z⟩
  intro w1 vs H1 s1 R1 x1
  split at h1
  · rename_i hl
    exact ⟨by rw [x1.length]; exact hl, newLst R1 x1 (okD.later s1 h1)⟩
  · exact h1.elim
end
/-! ### tests -/
def mB (a : M DV) : M Bool := fun S => (a S).bnd fun x S1 => match x with
  | .val (.bl b) => .ok b S1
  | _ => .stk
def mOfB (a : M Bool) : M DV := fun S => (a S).bnd fun b S1 => .ok (.val (.bl b)) S1
def mAnd (a b : M Bool) : M Bool := fun S => (a S).bnd fun x S1 => if x = true then b S1 else .ok false S1
def mOr (a b : M Bool) : M Bool := fun S => (a S).bnd fun x S1 => if x = true then .ok true S1 else b S1
def mNot (a : M Bool) : M Bool := fun S => (a S).bnd fun x S1 => .ok (!x) S1
def mIf (c : M Bool) (a b : M DV) : M DV := fun S => (c S).bnd fun x S1 => if x = true then a S1 else b S1
def mAndV (a b : M DV) : M DV := fun S => (a S).bnd fun x S1 => match x with
  | .val (.bl true) => b S1
  | .val (.bl false) => .ok (.val (.bl false)) S1
  | _ => .stk
def mOrV (a b : M DV) : M DV := fun S => (a S).bnd fun x S1 => match x with
  | .val (.bl true) => .ok (.val (.bl true)) S1
  | .val (.bl false) => b S1
  | _ => .stk
def mNotV (a : M DV) : M DV := fun S => (a S).bnd fun x S1 => match x with
  | .val (.bl b) => .ok (.val (.bl (!b))) S1
  | _ => .stk
section
variable {X : Cx} {W : WX} {e a b c : Expr} {es rest : List Expr} {fa fb : M DV} {f g : M Bool} {pos : Pos}
theorem rv_bl {K : PySem.W.Frag} {w : Wd} {r : List Sl} {σ : Sg} {H0 H : Hp} {v : V} {b : Bool} (x : RV K w r σ H0 H v (.val (.bl b))) : v = .bl b := by
  cases (show Rep K w H v (.bl b) from x); rfl
/-- a value that is a bool, as a test -/
theorem dt_of (h : PT X e (tB (tD X.K W fa))) : DT X W e (mB fa) := by
  refine pt_imp h fun σ H Q hw => ?_
  obtain ⟨w, S, R, h⟩ := hw
  refine ⟨w, S, R, Res.to_imp (Res.to_bnd h) (fun x S1 h1 => ?_) fun _ _ z => z⟩
  intro w1 v H1 s1 R1 x1
  split at h1
  · have e1 := rv_bl x1
    subst e1
    exact ⟨_, rfl, h1 w1 H1 s1 R1⟩
  · exact h1.elim
theorem dt_val (h : DE X W e fa) (he : ∀ whole, isTrue e X.env whole = (do let v ← whole; standAt e.pos; holding [v] (truthy v)) := by intro _; rfl) : DT X W e (mB fa) := dt_of (pt_val h he)
theorem dw_and1 (ha : DT X W a f) : DW X W (.BoolOp .And [a] pos) f := pw_and1 ha
theorem dw_or1 (ha : DT X W a f) : DW X W (.BoolOp .Or [a] pos) f := pw_or1 ha
theorem dw_and (ha : DT X W a f) (hb : DW X W (.BoolOp .And (b :: rest) pos) g) : DW X W (.BoolOp .And (a :: b :: rest) pos) (mAnd f g) := by
  refine pw_imp (pw_and ha hb) fun σ H Q hw => ?_
  obtain ⟨w, S, R, h⟩ := hw
  refine ⟨w, S, R, Res.to_imp (Res.to_bnd h) (fun x S1 h1 => ?_) fun _ _ z => z⟩
  intro w1 H1 s1 R1
  cases x with
  | true => exact ⟨w1, S1, R1, Res.to_imp (show (g S1).to _ _ from h1) (fun _ _ z => okT.later s1 z) fun _ _ z => z.later s1⟩
  | false => exact (show okT X.K w S.r σ H Q false S1 from h1) w1 H1 s1 R1
theorem dw_or (ha : DT X W a f) (hb : DW X W (.BoolOp .Or (b :: rest) pos) g) : DW X W (.BoolOp .Or (a :: b :: rest) pos) (mOr f g) := by
  refine pw_imp (pw_or ha hb) fun σ H Q hw => ?_
  obtain ⟨w, S, R, h⟩ := hw
  refine ⟨w, S, R, Res.to_imp (Res.to_bnd h) (fun x S1 h1 => ?_) fun _ _ z => z⟩
  intro w1 H1 s1 R1
  cases x with
  | false => exact ⟨w1, S1, R1, Res.to_imp (show (g S1).to _ _ from h1) (fun _ _ z => okT.later s1 z) fun _ _ z => z.later s1⟩
  | true => exact (show okT X.K w S.r σ H Q true S1 from h1) w1 H1 s1 R1
theorem dt_not (ha : DT X W a f) : DT X W (.UnaryOp .Not a pos) (mNot f) := by
  refine pt_imp (pt_not ha) fun σ H Q hw => ?_
  obtain ⟨w, S, R, h⟩ := hw
  refine ⟨w, S, R, Res.to_imp (Res.to_bnd h) (fun x S1 h1 => ?_) fun _ _ z => z⟩
  intro w1 H1 s1 R1
  exact (show okT X.K w S.r σ H Q (!x) S1 from h1) w1 H1 s1 R1
theorem de_one {op : BoolOp} (h : DE X W a fa) : DE X W (.BoolOp op [a] pos) fa := pe_one h
theorem de_and (ha : DE X W a fa) (hb : DE X W (.BoolOp .And (b :: rest) pos) fb) : DE X W (.BoolOp .And (a :: b :: rest) pos) (mAndV fa fb) := by
  refine pe_imp (pe_and ha hb) fun σ H Q hw => ?_
  obtain ⟨w, S, R, h⟩ := hw
  refine ⟨w, S, R, Res.to_imp (Res.to_bnd h) (fun x S1 h1 => ?_) fun _ _ z => z⟩
  intro w1 v H1 s1 R1 x1
  split at h1
  · have e1 := rv_bl x1
    subst e1
    exact ⟨_, rfl, ⟨w1, S1, R1, Res.to_imp h1 (fun _ _ z => okD.later s1 z) fun _ _ z => z.later s1⟩⟩
  · have e1 := rv_bl x1
    subst e1
    exact ⟨_, rfl, (show okD X.K w S.r σ H Q (.val (.bl false)) S1 from h1) w1 _ H1 s1 R1 (Rep.bl false)⟩
  · exact h1.elim
theorem de_or (ha : DE X W a fa) (hb : DE X W (.BoolOp .Or (b :: rest) pos) fb) : DE X W (.BoolOp .Or (a :: b :: rest) pos) (mOrV fa fb) := by
  refine pe_imp (pe_or ha hb) fun σ H Q hw => ?_
  obtain ⟨w, S, R, h⟩ := hw
  refine ⟨w, S, R, Res.to_imp (Res.to_bnd h) (fun x S1 h1 => ?_) fun _ _ z => z⟩
  intro w1 v H1 s1 R1 x1
  split at h1
  · have e1 := rv_bl x1
    subst e1
    exact ⟨_, rfl, (show okD X.K w S.r σ H Q (.val (.bl true)) S1 from h1) w1 _ H1 s1 R1 (Rep.bl true)⟩
  · have e1 := rv_bl x1
    subst e1
    exact ⟨_, rfl, ⟨w1, S1, R1, Res.to_imp h1 (fun _ _ z => okD.later s1 z) fun _ _ z => z.later s1⟩⟩
  · exact h1.elim
theorem de_not (ha : DE X W a fa) : DE X W (.UnaryOp .Not a pos) (mNotV fa) := by
  refine pe_imp (pe_not ha) fun σ H Q hw => ?_
  obtain ⟨w, S, R, h⟩ := hw
  refine ⟨w, S, R, Res.to_imp (Res.to_bnd h) (fun x S1 h1 => ?_) fun _ _ z => z⟩
  intro w1 v H1 s1 R1 x1
  split at h1
  · rename_i b
    have e1 := rv_bl x1
    subst e1
    exact ⟨_, rfl, (show okD X.K w S.r σ H Q (.val (.bl !b)) S1 from h1) w1 _ H1 s1 R1 (Rep.bl _)⟩
  · exact h1.elim
theorem de_if (hc : DT X W c f) (ha : DE X W a fa) (hb : DE X W b fb) : DE X W (.IfExp c a b pos) (mIf f fa fb) := by
  refine pe_imp (pe_ifExp hc ha hb) fun σ H Q hw => ?_
  obtain ⟨w, S, R, h⟩ := hw
  refine ⟨w, S, R, Res.to_imp (Res.to_bnd h) (fun x S1 h1 => ?_) fun _ _ z => z⟩
  intro w1 H1 s1 R1
  cases x with
  | true => exact ⟨w1, S1, R1, Res.to_imp (show (fa S1).to _ _ from h1) (fun _ _ z => okD.later s1 z) fun _ _ z => z.later s1⟩
  | false => exact ⟨w1, S1, R1, Res.to_imp (show (fb S1).to _ _ from h1) (fun _ _ z => okD.later s1 z) fun _ _ z => z.later s1⟩
end
end DL
namespace DL
open PySem PySem.Spec PyProof.Rows L2
/-! ### statements -/
inductive Fl where
  | nx | br | ct | rt (dv : DV)
def okS (K : PySem.W.Frag) (w : Wd) (r : List Sl) (σ : Sg) (H : Hp) (D : Ends) (fl : Fl) (S' : Sta) : Prop := ∀ w' σ' H', Stp w r σ H w' S'.r σ' H' → Rel K w' S' σ' H' → match fl with
  | .nx => D.nx σ' H'
  | .br => D.bk σ' H'
  | .ct => D.ct σ' H'
  | .rt dv => ∀ v, RV K w' S'.r σ' H H' v dv → D.rt v H'
def tS (K : PySem.W.Frag) (W : WX) (f : M Fl) : TS := fun D σ H => ∃ w S, Rel K w S σ H ∧ (f S).to (okS K w S.r σ H D) (exW K W w S.r σ H)
abbrev DS (X : Cx) (W : WX) (st : Stmt) (f : M Fl) : Prop := PS X st (tS X.K W f)
abbrev DSs (X : Cx) (W : WX) (st : List Stmt) (f : M Fl) : Prop := PSs X st (tS X.K W f)
section
variable {X : Cx} {W : WX} {st : Stmt} {sts : List Stmt}
theorem ps_imp {t t' : TS} (h : PS X st t) (i : ∀ D σ H, t' D σ H → t D σ H) : PS X st t' := ⟨fun pins s σ H D I hw => h.run pins s σ H D I (i _ _ _ hw)⟩
theorem pss_imp {t t' : TS} (h : PSs X sts t) (i : ∀ D σ H, t' D σ H → t D σ H) : PSs X sts t' := ⟨fun pins s σ H D I hw => h.run pins s σ H D I (i _ _ _ hw)⟩
end
section
variable {K : PySem.W.Frag} {w w1 : Wd} {r r1 : List Sl} {σ σ1 : Sg} {H H1 : Hp} {D D' : Ends} {fl : Fl} {S' : Sta}
theorem okS.later (s : Stp w r σ H w1 r1 σ1 H1) (h : okS K w r σ H D fl S') : okS K w1 r1 σ1 H1 D fl S' := fun w' σ' H' s' R' => by
  have h1 := h w' σ' H' (s.trans s') R'
  cases fl with
  | nx => exact h1
  | br => exact h1
  | ct => exact h1
  | rt dv => exact fun v x => h1 v (x.start s)
theorem okS.ends (h : okS K w r σ H D fl S') (h1 : fl = .nx → ∀ σ H, D.nx σ H → D'.nx σ H) (h2 : fl = .br → ∀ σ H, D.bk σ H → D'.bk σ H) (h3 : fl = .ct → ∀ σ H, D.ct σ H → D'.ct σ H) (h4 : ∀ v H, D.rt v H → D'.rt v H) : okS K w r σ H D' fl S' := fun w' σ' H' s' R' => by
  have h0 := h w' σ' H' s' R'
  cases fl with
  | nx => exact h1 rfl _ _ h0
  | br => exact h2 rfl _ _ h0
  | ct => exact h3 rfl _ _ h0
  | rt dv => exact fun v x => h4 _ _ (h0 v x)
end
def sSkip : M Fl := fun S => .ok .nx S
def sSeq (f g : M Fl) : M Fl := fun S => (f S).bnd fun fl S1 => match fl with
  | .nx => g S1
  | fl => .ok fl S1
def sExpr (f : M DV) : M Fl := fun S => (f S).bnd fun _ S1 => .ok .nx S1
def sRet (f : M DV) : M Fl := fun S => (f S).bnd fun dv S1 => .ok (.rt dv) S1
def sRetN : M Fl := fun S => .ok (.rt (.val .non)) S
def sBrk : M Fl := fun S => .ok .br S
def sCnt : M Fl := fun S => .ok .ct S
def sIf (c : M Bool) (a b : M Fl) : M Fl := fun S => (c S).bnd fun x S1 => if x = true then a S1 else b S1
def sNever : M Fl := fun _ => .stk
def DV.sl : DV → Sl
  | .val d => .val d
  | .new o => .own o
def Sta.set (S : Sta) (i : Nat) (x : Sl) : Sta := ⟨S.r.set i x, S.m⟩
@[simp] theorem Sta.set_r (S : Sta) (i : Nat) (x : Sl) : (S.set i x).r = S.r.set i x := id rfl
@[simp] theorem Sta.set_m (S : Sta) (i : Nat) (x : Sl) : (S.set i x).m = S.m := id rfl
@[simp] theorem DV.sl_val (d : D) : (DV.val d).sl = .val d := id rfl
@[simp] theorem DV.sl_new (o : Ob) : (DV.new o).sl = .own o := id rfl
def sAsg (i : Nat) (f : M DV) : M Fl := fun S => (f S).bnd fun dv S1 => .ok .nx (S1.set i dv.sl)
section
variable {X : Cx} {W : WX} {st : Stmt} {sts a b : List Stmt} {e c : Expr} {f g : M Fl} {fe : M DV} {ft : M Bool} {pos : Pos}
theorem dss_nil : DSs X W [] sSkip := pss_imp pss_nil fun D σ H ⟨w, S, R, h⟩ => h w σ H Stp.refl R
theorem dss_cons (h1 : DS X W st f) (h2 : DSs X W sts g) : DSs X W (st :: sts) (sSeq f g) := by
  refine pss_imp (pss_cons h1 h2) fun D σ H hw => ?_
  obtain ⟨w, S, R, h⟩ := hw
  refine ⟨w, S, R, Res.to_imp (Res.to_bnd h) (fun fl S1 h1 => ?_) fun _ _ z => z⟩
  intro w1 σ1 H1 s1 R1
  cases fl with
  | nx => exact ⟨w1, S1, R1, Res.to_imp (show (g S1).to _ _ from h1) (fun _ _ z => z.later s1) fun _ _ z => z.later s1⟩
  | br => exact (show okS X.K w S.r σ H D .br S1 from h1) w1 σ1 H1 s1 R1
  | ct => exact (show okS X.K w S.r σ H D .ct S1 from h1) w1 σ1 H1 s1 R1
  | rt dv => exact (show okS X.K w S.r σ H D (.rt dv) S1 from h1) w1 σ1 H1 s1 R1
theorem dss_one (h : DS X W st f) : DSs X W [st] f := pss_one h
theorem ds_pass : DS X W (.Pass pos) sSkip := ps_imp ps_pass fun D σ H ⟨w, S, R, h⟩ => h w σ H Stp.refl R
theorem ds_brk : DS X W (.Break pos) sBrk := ps_imp ps_break fun D σ H ⟨w, S, R, h⟩ => h w σ H Stp.refl R
theorem ds_cnt : DS X W (.Continue pos) sCnt := ps_imp ps_continue fun D σ H ⟨w, S, R, h⟩ => h w σ H Stp.refl R
theorem ds_never : DS X W st sNever := ps_imp ps_never fun D σ H ⟨w, S, R, h⟩ => h
theorem dss_never : DSs X W sts sNever := pss_imp pss_never fun D σ H ⟨w, S, R, h⟩ => h
theorem ds_expr (h : DE X W e fe) (hs : swapsWith e none pos.line X.env = pure false := by rfl) : DS X W (.Expr e pos) (sExpr fe) := by
  refine ps_imp (ps_expr h hs) fun D σ H hw => ?_
  obtain ⟨w, S, R, h⟩ := hw
  refine ⟨w, S, R, Res.to_imp (Res.to_bnd h) (fun dv S1 h1 => ?_) fun _ _ z => z⟩
  intro w1 v H1 s1 R1 _
  exact (show okS X.K w S.r σ H D .nx S1 from h1) w1 σ H1 s1 R1
theorem ds_ret (h : DE X W e fe) : DS X W (.Return (some e) pos) (sRet fe) := by
  refine ps_imp (ps_ret h) fun D σ H hw => ?_
  obtain ⟨w, S, R, h⟩ := hw
  refine ⟨w, S, R, Res.to_imp (Res.to_bnd h) (fun dv S1 h1 => ?_) fun _ _ z => z⟩
  intro w1 v H1 s1 R1 x1
  exact (show okS X.K w S.r σ H D (.rt dv) S1 from h1) w1 σ H1 s1 R1 v x1
theorem ds_retN : DS X W (.Return none pos) sRetN := by
  refine ps_imp ps_retN fun D σ H hw => ?_
  obtain ⟨w, S, R, h⟩ := hw
  exact (show okS X.K w S.r σ H D (.rt (.val .non)) S from h) w σ H Stp.refl R .non Rep.non
theorem ds_if (hc : DT X W c ft) (ha : DSs X W a f) (hb : DSs X W b g) : DS X W (.If c a b pos) (sIf ft f g) := by
  refine ps_imp (ps_if hc ha hb) fun D σ H hw => ?_
  obtain ⟨w, S, R, h⟩ := hw
  refine ⟨w, S, R, Res.to_imp (Res.to_bnd h) (fun x S1 h1 => ?_) fun _ _ z => z⟩
  intro w1 H1 s1 R1
  cases x with
  | true => exact ⟨w1, S1, R1, Res.to_imp (show (f S1).to _ _ from h1) (fun _ _ z => z.later s1) fun _ _ z => z.later s1⟩
  | false => exact ⟨w1, S1, R1, Res.to_imp (show (g S1).to _ _ from h1) (fun _ _ z => z.later s1) fun _ _ z => z.later s1⟩
end
/-! ### storing into slots -/
section
variable {K : PySem.W.Frag} {w : Wd} {S : Sta} {σ : Sg} {H0 H : Hp} {v : V}
/-- data into a slot -/
theorem Rel.put (R : Rel K w S σ H) (i : Nat) {d : D} (x : Rep K w H v d) : Rel K w (S.set i (.val d)) (σ.set i (some v)) H ∧ Stp w S.r σ H w (S.r.set i (.val d)) (σ.set i (some v)) H := by
  have own : ∀ (j : Nat) (o : Ob), (S.r.set i (.val d))[j]? = some (Sl.own o) → j ≠ i ∧ S.r[j]? = some (Sl.own o) := fun j o e => by
    by_cases hj : j = i
    · subst hj
      by_cases hl : j < S.r.length
      · rw [List.getElem?_set_self hl] at e; injection e with e; cases e
      · rw [List.getElem?_eq_none_iff.mpr (by rw [List.length_set]; omega)] at e; cases e
    · rw [List.getElem?_set_ne (Ne.symm hj)] at e; exact ⟨hj, e⟩
  refine ⟨⟨by simp [R.len], fun j d' e => ?_, fun j o e => ?_, fun j k o o' a e e' h h' => ?_, R.ml, R.mu, R.nd, R.fd⟩, ⟨fun _ _ e _ => e, fun a h => ?_, fun _ h => .inl h, fun _ h => h, List.prefix_refl _, fun _ h => h⟩⟩
  · by_cases hj : j = i
    · subst hj
      have hl : j < S.r.length := by
        have := (List.getElem?_eq_some_iff.mp e).1
        simpa using this
      simp only [Sta.set_r] at e
      rw [List.getElem?_set_self hl] at e
      injection e with e; injection e with e; subst e
      exact ⟨v, List.getElem?_set_self (by rw [← R.len]; exact hl), x⟩
    · simp only [Sta.set_r] at e
      rw [List.getElem?_set_ne (Ne.symm hj)] at e
      obtain ⟨v', h1, h2⟩ := R.sl j d' e
      exact ⟨v', by rw [List.getElem?_set_ne (Ne.symm hj)]; exact h1, h2⟩
  · obtain ⟨hj, e⟩ := own j o e
    obtain ⟨a, h1, h2⟩ := R.ow j o e
    exact ⟨a, by rw [List.getElem?_set_ne (Ne.symm hj)]; exact h1, h2⟩
  · obtain ⟨hj, e⟩ := own j o e
    obtain ⟨hk, e'⟩ := own k o' e'
    rw [List.getElem?_set_ne (Ne.symm hj)] at h
    rw [List.getElem?_set_ne (Ne.symm hk)] at h'
    exact R.inj j k o o' a e e' h h'
  · rcases h with h | ⟨j, o, e, h⟩
    · exact .inl (.inl h)
    · obtain ⟨hj, e⟩ := own j o e
      rw [List.getElem?_set_ne (Ne.symm hj)] at h
      exact .inl (.inr ⟨j, o, e, h⟩)
/-- a new object into a slot -/
theorem Rel.putNew (R : Rel K w S σ H) (i : Nat) {o : Ob} {a : Addr} (x : ObAt K w H a o) (nf : ¬ w.F a) (no : ¬ Own w S.r σ a) :
    Rel K w (S.set i (.own o)) (σ.set i (some (.ref a))) H ∧ ∀ w0 r0 σ0 H0, H0 a = none → Stp w0 r0 σ0 H0 w S.r σ H → Stp w0 r0 σ0 H0 w (S.r.set i (.own o)) (σ.set i (some (.ref a))) H := by
  have own : ∀ (j : Nat) (o' : Ob), (S.r.set i (.own o))[j]? = some (Sl.own o') → (j = i ∧ i < S.r.length ∧ o' = o) ∨ (j ≠ i ∧ S.r[j]? = some (Sl.own o')) := fun j o' e => by
    by_cases hj : j = i
    · subst hj
      by_cases hl : j < S.r.length
      · rw [List.getElem?_set_self hl] at e; injection e with e; injection e with e; exact .inl ⟨rfl, hl, e.symm⟩
      · rw [List.getElem?_eq_none_iff.mpr (by rw [List.length_set]; omega)] at e; cases e
    · rw [List.getElem?_set_ne (Ne.symm hj)] at e; exact .inr ⟨hj, e⟩
  have self : i < S.r.length → (σ.set i (some (V.ref a)))[i]? = some (some (V.ref a)) := fun hl => List.getElem?_set_self (by rw [← R.len]; exact hl)
  refine ⟨⟨by simp [R.len], fun j d' e => ?_, fun j o' e => ?_, fun j k o1 o2 b e e' h h' => ?_, R.ml, R.mu, R.nd, R.fd⟩, fun w0 r0 σ0 H0 hn s => ⟨s.kp, fun b h => ?_, s.fz, s.F, s.L, s.dm⟩⟩
  · by_cases hj : j = i
    · subst hj
      simp only [Sta.set_r] at e
      by_cases hl : j < S.r.length
      · rw [List.getElem?_set_self hl] at e; injection e with e; cases e
      · rw [List.getElem?_eq_none_iff.mpr (by rw [List.length_set]; omega)] at e; cases e
    · simp only [Sta.set_r] at e
      rw [List.getElem?_set_ne (Ne.symm hj)] at e
      obtain ⟨v', h1, h2⟩ := R.sl j d' e
      exact ⟨v', by rw [List.getElem?_set_ne (Ne.symm hj)]; exact h1, h2⟩
  · rcases own j o' e with ⟨rfl, hl, rfl⟩ | ⟨hj, e⟩
    · exact ⟨a, self hl, x, nf, fun z => no (.inl z)⟩
    · obtain ⟨b, h1, h2⟩ := R.ow j o' e
      exact ⟨b, by rw [List.getElem?_set_ne (Ne.symm hj)]; exact h1, h2⟩
  · rcases own j o1 e with ⟨rfl, hl, rfl⟩ | ⟨hj, _⟩
    · rcases own k o2 e' with ⟨rfl, _, _⟩ | ⟨hk, e'⟩
      · rfl
      · rw [self hl] at h
        injection h with h; injection h with h; injection h with h
        subst h
        rw [List.getElem?_set_ne (Ne.symm hk)] at h'
        exact absurd (Or.inr ⟨k, o2, e', h'⟩) no
    · rename_i ej
      rw [List.getElem?_set_ne (Ne.symm hj)] at h
      rcases own k o2 e' with ⟨rfl, hl, _⟩ | ⟨hk, e2⟩
      · rw [self hl] at h'
        injection h' with h'; injection h' with h'; injection h' with h'
        subst h'
        exact absurd (Or.inr ⟨j, o1, ej, h⟩) no
      · rw [List.getElem?_set_ne (Ne.symm hk)] at h'
        exact R.inj j k o1 o2 b ej e2 h h'
  · rcases h with h | ⟨j, o', e, h⟩
    · exact s.ow b (.inl h)
    · rcases own j o' e with ⟨rfl, hl, rfl⟩ | ⟨hj, e⟩
      · rw [self hl] at h
        injection h with h; injection h with h; injection h with h
        subst h
        exact .inr hn
      · rw [List.getElem?_set_ne (Ne.symm hj)] at h
        exact s.ow b (.inr ⟨j, o', e, h⟩)
/-- any value into a slot -/
theorem Rel.putV (R : Rel K w S σ H) (i : Nat) {dv : DV} (x : RV K w S.r σ H0 H v dv) : Rel K w (S.set i dv.sl) (σ.set i (some v)) H ∧ ∀ w0 r0 σ0, Stp w0 r0 σ0 H0 w S.r σ H → Stp w0 r0 σ0 H0 w (S.r.set i dv.sl) (σ.set i (some v)) H := by
  cases dv with
  | val d =>
    obtain ⟨R1, s1⟩ := R.put i (show Rep K w H v d from x)
    exact ⟨R1, fun _ _ _ s => s.trans s1⟩
  | new o =>
    obtain ⟨a, rfl, x, nf, no, h0⟩ := x
    obtain ⟨R1, s1⟩ := R.putNew i x nf no
    exact ⟨R1, fun _ _ _ s => s1 _ _ _ _ h0 s⟩
end
section
variable {X : Cx} {W : WX} {e : Expr} {fe : M DV} {pos : Pos}
theorem ds_asg {i : Nat} {x : Str} {pos' : Pos} (hN : X.N.Nodup) (hi : X.N[i]? = some x) (hx : Loc X.env.scope x) (he : DE X W e fe) (hs : swapsWith e (some (.Name x pos')) pos.line X.env = pure false := by rfl) (hf : X.fn x = true ∨ X.env.scope.names.lookup x = some .local := by first | exact .inl rfl | exact .inr rfl) :
    DS X W (.Assign [.Name x pos'] e pos) (sAsg i fe) := by
  refine ps_imp (ps_set hN hi hx he hs hf) fun D σ H hw => ?_
  obtain ⟨w, S, R, h⟩ := hw
  refine ⟨w, S, R, Res.to_imp (Res.to_bnd h) (fun dv S1 h1 => ?_) fun _ _ z => z⟩
  intro w1 v H1 s1 R1 x1
  obtain ⟨R2, s2⟩ := R1.putV i x1
  exact (show okS X.K w S.r σ H D .nx (S1.set i dv.sl) from h1) w1 _ H1 (s2 _ _ _ s1) R2
end
/-! ### targets -/
abbrev Tg := D → Sta → Option Sta
def tG (K : PySem.W.Frag) (g : Tg) : TG := fun v σ H Q => ∃ w S d S', Rel K w S σ H ∧ Rep K w H v d ∧ g d S = some S' ∧ ∀ w' σ' H', Stp w S.r σ H w' S'.r σ' H' → Rel K w' S' σ' H' → Q σ' H'
abbrev Tgs := List D → Sta → Option Sta
def tGs (K : PySem.W.Frag) (g : Tgs) : TGs := fun vs σ H Q => ∃ w S ds S', Rel K w S σ H ∧ Reps K w H vs ds ∧ g ds S = some S' ∧ ∀ w' σ' H', Stp w S.r σ H w' S'.r σ' H' → Rel K w' S' σ' H' → Q σ' H'
abbrev DG (X : Cx) (e : Expr) (g : Tg) : Prop := PG X e (tG X.K g)
abbrev DGs (X : Cx) (es : List Expr) (g : Tgs) : Prop := PGs X es (tGs X.K g)
def gV (i : Nat) : Tg := fun d S => some (S.set i (.val d))
def gsNil : Tgs := fun ds S => match ds with
  | [] => some S
  | _ => none
def gsCons (g : Tg) (gs : Tgs) : Tgs := fun ds S => match ds with
  | [] => none
  | d :: r => (g d S).bind fun S1 => gs r S1
def gT (gs : Tgs) : Tg := fun d S => match d with
  | .tup ds => gs ds S
  | _ => none
def gL (gs : Tgs) : Tg := fun d S => match d with
  | .lst ds => gs ds S
  | _ => none
section
variable {X : Cx} {e : Expr} {es : List Expr} {g : Tg} {gs : Tgs} {pos : Pos}
theorem pg_imp {t t' : TG} (h : PG X e t) (i : ∀ v σ H Q, t' v σ H Q → t v σ H Q) : PG X e t' := ⟨fun pins s σ H v u Q I r hw => h.run pins s σ H v u Q I r (i _ _ _ _ hw)⟩
theorem pgs_imp {t t' : TGs} (h : PGs X es t) (i : ∀ v σ H Q, t' v σ H Q → t v σ H Q) : PGs X es t' := ⟨fun pins s σ H v u Q I r hw => h.run pins s σ H v u Q I r (i _ _ _ _ hw)⟩
theorem dg_name {i : Nat} {x : Str} (hN : X.N.Nodup) (hi : X.N[i]? = some x) (hx : Loc X.env.scope x) (hf : X.fn x = true ∨ X.env.scope.names.lookup x = some .local := by first | exact .inl rfl | exact .inr rfl | assumption) : DG X (.Name x pos) (gV i) := by
  refine pg_imp (pg_name hN hi hx hf) fun v σ H Q hw => ?_
  obtain ⟨w, S, d, S', R, x, e, h⟩ := hw
  cases e
  obtain ⟨R1, s1⟩ := R.put i x
  exact h _ _ _ s1 R1
theorem dgs_nil : DGs X [] gsNil := by
  refine pgs_imp pgs_nil fun v σ H Q hw => ?_
  obtain ⟨w, S, ds, S', R, x, e, h⟩ := hw
  cases x with
  | nil => cases e; exact ⟨rfl, h _ _ _ Stp.refl R⟩
  | cons _ _ => cases e
theorem dgs_cons (h1 : DG X e g) (h2 : DGs X es gs) (hs : (assignEach (e :: es) X.env).map (·.2) = assign e X.env :: (assignEach es X.env).map (·.2) := by rfl) : DGs X (e :: es) (gsCons g gs) := by
  refine pgs_imp (pgs_cons h1 h2 hs) fun v σ H Q hw => ?_
  obtain ⟨w, S, ds, S', R, x, e, h⟩ := hw
  cases x with
  | nil => cases e
  | cons rr rs =>
    rename_i d vs ds
    obtain ⟨S1, e1, e2⟩ := Option.bind_eq_some_iff.mp e
    refine ⟨_, _, rfl, w, S, _, S1, R, rr, e1, fun w1 σ1 H1 s1 R1 => ?_⟩
    exact ⟨w1, S1, _, S', R1, rs.later (s1.ltr R), e2, fun w2 σ2 H2 s2 R2 => h w2 σ2 H2 (s1.trans s2) R2⟩
/-- (a, b, ..): n: how many -/
theorem dg_tup {k n : Nat} (hc : X.calm = true) (h : DGs X es gs) (hl : ∀ ds S S', gs ds S = some S' → ds.length = n) (hn : (assignEach es X.env).length = n := by rfl) (hst : (assignEach es X.env).findIdx? (·.1) = none := by rfl) : DG X (.Tuple es k pos) (gT gs) := by
  refine pg_imp (pg_tup hc h hn hst) fun v σ H Q hw => ?_
  obtain ⟨w, S, d, S', R, x, e, hq⟩ := hw
  cases d with
  | tup ds =>
    obtain ⟨a, xs, e1, h1, h2⟩ := Rq.tup (.inl x)
    exact ⟨a, xs, e1, h1, by rw [h2.length]; exact hl ds S S' e, w, S, ds, S', R, h2, e, hq⟩
  | _ => cases e
theorem dg_lst {k n : Nat} (hc : X.calm = true) (h : DGs X es gs) (hl : ∀ ds S S', gs ds S = some S' → ds.length = n) (hn : (assignEach es X.env).length = n := by rfl) (hst : (assignEach es X.env).findIdx? (·.1) = none := by rfl) : DG X (.Tuple es k pos) (gL gs) := by
  refine pg_imp (pg_lst hc h hn hst) fun v σ H Q hw => ?_
  obtain ⟨w, S, d, S', R, x, e, hq⟩ := hw
  cases d with
  | lst ds =>
    obtain ⟨a, xs, e1, h1, h2⟩ := Rq.lst (.inl x)
    exact ⟨a, xs, e1, SqL.of h1, by rw [h2.length]; exact hl ds S S' e, w, S, ds, S', R, h2, e, hq⟩
  | _ => cases e
theorem gsNil_len : ∀ ds S S', gsNil ds S = some S' → ds.length = 0 := fun ds S S' h => by
  cases ds with
  | nil => rfl
  | cons _ _ => cases h
theorem gsCons_len {n : Nat} (h : ∀ ds S S', gs ds S = some S' → ds.length = n) : ∀ ds S S', gsCons g gs ds S = some S' → ds.length = n + 1 := fun ds S S' e => by
  cases ds with
  | nil => cases e
  | cons d r =>
    obtain ⟨S1, _, e2⟩ := Option.bind_eq_some_iff.mp e
    rw [List.length_cons, h r S1 S' e2]
end
def sAsgG (f : M DV) (g : Tg) : M Fl := fun S => (f S).bnd fun dv S1 => match g dv.fz S1 with
  | some S2 => .ok .nx S2
  | none => .stk
section
variable {X : Cx} {W : WX} {e tg : Expr} {fe : M DV} {g : Tg} {pos : Pos}
theorem ds_asgG (he : DE X W e fe) (hg : DG X tg g) (hs : swapsWithSole [tg] e pos.line X.env = pure false := by rfl) (hw : swappedStores [tg] e X.env = pure none := by rfl) (h1 : (assignEach [tg] X.env).map (·.2) = [assign tg X.env] := by rfl) : DS X W (.Assign [tg] e pos) (sAsgG fe g) := by
  refine ps_imp (ps_asg he hg hs hw h1) fun D σ H hw => ?_
  obtain ⟨w, S, R, h⟩ := hw
  refine ⟨w, S, R, Res.to_imp (Res.to_bnd h) (fun dv S1 h1 => ?_) fun _ _ z => z⟩
  intro w1 v H1 s1 R1 x1
  obtain ⟨w1', R1', rp, _, st⟩ := x1.frz R1
  cases e1 : g dv.fz S1 with
  | none => rw [e1] at h1; exact h1.elim
  | some S2 =>
    rw [e1] at h1
    exact ⟨w1', S1, _, S2, R1', rp, e1, fun w2 σ2 H2 s2 R2 => (show okS X.K w S.r σ H D .nx S2 from h1) w2 σ2 H2 ((st _ _ _ s1).trans s2) R2⟩
end
/-! ### what is walked -/
def ItOk (K : PySem.W.Frag) (J : It) (items : List D) (w : Wd) (H : Hp) : Prop := ∀ w2 H2, Ltr w H w2 H2 →
  (∀ i d, items[i]? = some d → J.go i H2 ∧ ∀ x H3, J.yld i H2 x H3 → ∀ S σ, Rel K w2 S σ H2 → ∃ w3, Stp w2 S.r σ H2 w3 S.r σ H3 ∧ Rel K w3 S σ H3 ∧ Rep K w3 H3 x d) ∧ J.stop items.length H2
theorem ItOk.later {K : PySem.W.Frag} {J : It} {items : List D} {w w1 : Wd} {H H1 : Hp} (h : ItOk K J items w H) (l : Ltr w H w1 H1) : ItOk K J items w1 H1 := fun w2 H2 l2 => h w2 H2 (l.trans l2)
def tI (K : PySem.W.Frag) (W : WX) (f : M (List D)) : TI := fun σ H R => ∃ w S, Rel K w S σ H ∧ (f S).to (fun items S' => ∀ w' H' J, Stp w S.r σ H w' S'.r σ H' → Rel K w' S' σ H' → ItOk K J items w' H' → R J H') (exW K W w S.r σ H)
abbrev DI (X : Cx) (W : WX) (tg e : Expr) (f : M (List D)) : Prop := PI X tg e (tI X.K W f)
theorem pi_imp {X : Cx} {tg e : Expr} {t t' : TI} (h : PI X tg e t) (i : ∀ σ H R, t' σ H R → t σ H R) : PI X tg e t' := ⟨fun pins s σ H R I hw => h.run pins s σ H R I (i _ _ _ hw)⟩
def iSeq (f : M DV) : M (List D) := fun S => (f S).bnd fun dv S1 => match dv.fz with
  | .lst ds => .ok ds S1
  | .tup ds => .ok ds S1
  | _ => .stk
def iLst (f : M DV) : M (List D) := fun S => (f S).bnd fun dv S1 => match dv.fz with
  | .lst ds => .ok ds S1
  | _ => .stk
def iTup (f : M DV) : M (List D) := fun S => (f S).bnd fun dv S1 => match dv.fz with
  | .tup ds => .ok ds S1
  | _ => .stk
/-- lo, lo + 1, .. -/
def rgD (lo : Int) (n : Nat) : List D := (List.range n).map fun i => D.int (lo + (i : Nat))
def iRg1 (f : M DV) : M (List D) := fun S => (f S).bnd fun dv S1 => match dv.fz with
  | .int j => if -(2 ^ 62) ≤ j ∧ j < 2 ^ 62 then .ok (rgD 0 j.toNat) S1 else .stk
  | _ => .stk
def iRg2 (f g : M DV) : M (List D) := fun S => (f S).bnd fun dv S1 => (g S1).bnd fun dv2 S2 => match dv.fz, dv2.fz with
  | .int i, .int j => if (-(2 ^ 62) ≤ i ∧ i < 2 ^ 62) ∧ -(2 ^ 62) ≤ j ∧ j < 2 ^ 62 then .ok (rgD i (j - i).toNat) S2 else .stk
  | _, _ => .stk
section
variable {X : Cx} {W : WX} {tg e a b : Expr} {fe fa fb : M DV} {p pos : Pos}
theorem Rep.sqL {K : PySem.W.Frag} {w : Wd} {H : Hp} {v : V} {ds : List D} (x : Rep K w H v (.lst ds)) : ∃ a xs, v = .ref a ∧ FzL w H a xs ∧ Reps K w H xs ds := by
  cases x with
  | lst h q => exact ⟨_, _, rfl, h, q⟩
theorem Rep.sqT {K : PySem.W.Frag} {w : Wd} {H : Hp} {v : V} {ds : List D} (x : Rep K w H v (.tup ds)) : ∃ a xs, v = .ref a ∧ FzT K w H a xs ∧ Reps K w H xs ds := by
  cases x with
  | tup h q => exact ⟨_, _, rfl, h, q⟩
theorem FzL.later {w w' : Wd} {H H' : Hp} {a : Addr} {xs : List V} (h : FzL w H a xs) (l : Ltr w H w' H') : FzL w' H' a xs := l.rd h
theorem FzT.later {K : PySem.W.Frag} {w w' : Wd} {H H' : Hp} {a : Addr} {xs : List V} (h : FzT K w H a xs) (l : Ltr w H w' H') : FzT K w' H' a xs := h.imp l.rd id
theorem FzL.sq {K : PySem.W.Frag} {w : Wd} {H : Hp} {a : Addr} {xs : List V} (h : FzL w H a xs) : SqL K H a xs := SqL.of h.2
theorem FzT.sq {K : PySem.W.Frag} {w : Wd} {H : Hp} {a : Addr} {xs : List V} (h : FzT K w H a xs) : SqT K H a xs := h.imp (fun z => .inl z.2) id
theorem itOk_list {K : PySem.W.Frag} {w : Wd} {H : Hp} {a : Addr} {xs : List V} {ds : List D} (h : FzL w H a xs) (q : Reps K w H xs ds) : ItOk K (Itl K a) ds w H := fun w2 H2 l => by
  have h2 : SqL K H2 a xs := (h.later l).sq
  refine ⟨fun i d e => ?_, ⟨xs, h2, by rw [q.length]; exact Nat.le_refl _⟩⟩
  obtain ⟨v, e1, rp⟩ := q.get e
  refine ⟨⟨xs, v, h2, e1⟩, fun x H3 y S σ R => ?_⟩
  obtain ⟨rfl, y⟩ := y
  have := y xs h2
  rw [e1] at this
  cases this
  exact ⟨w2, Stp.refl, R, rp.later l⟩
theorem itOk_tup {K : PySem.W.Frag} {w : Wd} {H : Hp} {a : Addr} {xs : List V} {ds : List D} (h : FzT K w H a xs) (q : Reps K w H xs ds) : ItOk K (Itt K a) ds w H := fun w2 H2 l => by
  have h2 := (h.later l).sq
  refine ⟨fun i d e => ?_, ⟨xs, h2, by rw [q.length]; exact Nat.le_refl _⟩⟩
  obtain ⟨v, e1, rp⟩ := q.get e
  refine ⟨⟨xs, v, h2, e1⟩, fun x H3 y S σ R => ?_⟩
  obtain ⟨rfl, y⟩ := y
  have := y xs h2
  rw [e1] at this
  cases this
  exact ⟨w2, Stp.refl, R, rp.later l⟩
theorem itOk_rng {K : PySem.W.Frag} {w : Wd} {H : Hp} {lo : Int} {n : Nat} : ItOk K (Itr lo n) (rgD lo n) w H := fun w2 H2 l => by
  refine ⟨fun i d e => ?_, ?_⟩
  · unfold rgD at e
    rw [List.getElem?_map] at e
    obtain ⟨k, e1, e2⟩ := Option.map_eq_some_iff.mp e
    obtain ⟨hk, e3⟩ := List.getElem?_eq_some_iff.mp e1
    have hi : i < n := by simpa using hk
    have ek : k = i := by rw [← e3]; simp
    subst ek
    subst e2
    refine ⟨hi, fun x H3 y S σ R => ?_⟩
    obtain ⟨rfl, rfl⟩ := y
    exact ⟨w2, Stp.refl, R, .int _⟩
  · show n ≤ (rgD lo n).length
    simp [rgD]
theorem di_lst (h : DE X W e fe) : DI X W tg e (iLst fe) := by
  refine pi_imp (pi_list h) fun σ H R hw => ?_
  obtain ⟨w, S, RR, h⟩ := hw
  refine ⟨w, S, RR, Res.to_imp (Res.to_bnd h) (fun dv S1 h1 => ?_) fun _ _ z => z⟩
  intro w1 v H1 s1 R1 x1
  obtain ⟨w1', R1', rp, _, st⟩ := x1.frz R1
  cases e1 : dv.fz with
  | lst ds =>
    rw [e1] at h1 rp
    obtain ⟨a, xs, e2, h2, q⟩ := rp.sqL
    exact ⟨a, e2, ⟨xs, FzL.sq h2⟩, h1 _ _ _ (st _ _ _ s1) R1' (itOk_list h2 q)⟩
  | _ => rw [e1] at h1; exact h1.elim
theorem di_tup (h : DE X W e fe) : DI X W tg e (iTup fe) := by
  refine pi_imp (pi_tup h) fun σ H R hw => ?_
  obtain ⟨w, S, RR, h⟩ := hw
  refine ⟨w, S, RR, Res.to_imp (Res.to_bnd h) (fun dv S1 h1 => ?_) fun _ _ z => z⟩
  intro w1 v H1 s1 R1 x1
  obtain ⟨w1', R1', rp, _, st⟩ := x1.frz R1
  cases e1 : dv.fz with
  | tup ds =>
    rw [e1] at h1 rp
    obtain ⟨a, xs, e2, h2, q⟩ := rp.sqT
    exact ⟨a, e2, ⟨xs, h2.sq⟩, h1 _ _ _ (st _ _ _ s1) R1' (itOk_tup h2 q)⟩
  | _ => rw [e1] at h1; exact h1.elim
/-- a list or a tuple, whichever it is -/
theorem PI.or {t u : TI} (h1 : PI X tg e t) (h2 : PI X tg e u) : PI X tg e (fun σ H R => t σ H R ∨ u σ H R) := ⟨fun pins s σ H R I hw => hw.elim (h1.run pins s σ H R I) (h2.run pins s σ H R I)⟩
theorem di_seq (h : DE X W e fe) : DI X W tg e (iSeq fe) := by
  refine pi_imp (PI.or (di_lst h) (di_tup h)) fun σ H R hw => ?_
  obtain ⟨w, S, RR, hh⟩ := hw
  unfold iSeq at hh
  cases e1 : fe S with
  | ok dv S1 =>
    rw [e1] at hh
    dsimp only [Res.bnd] at hh
    cases e2 : dv.fz with
    | lst ds =>
      refine .inl ⟨w, S, RR, ?_⟩
      unfold iLst
      rw [e1]
      dsimp only [Res.bnd]
      rw [e2] at hh ⊢
      exact hh
    | tup ds =>
      refine .inr ⟨w, S, RR, ?_⟩
      unfold iTup
      rw [e1]
      dsimp only [Res.bnd]
      rw [e2] at hh ⊢
      exact hh
    | _ => rw [e2] at hh; exact hh.elim
  | exc x S1 =>
    refine .inl ⟨w, S, RR, ?_⟩
    unfold iLst
    rw [e1] at hh ⊢
    exact hh
  | stk => rw [e1] at hh; exact hh.elim
theorem di_rg1 (hg : Gl X "range") (hm : X.mg "range" = none) (ha : DE X W a fa) (hs : starEach [a] X.env = [(false, eval a X.env)] := by rfl) : DI X W tg (.Call (.Name "range" p) [a] [] pos) (iRg1 fa) := by
  refine pi_imp (pi_range1 (ta := tCons (tD X.K W fa) tNil) hg hm (pa_cons ha pa_nil (by rw [hs]; rfl)) hs) fun σ H R hw => ?_
  obtain ⟨w, S, RR, h⟩ := hw
  refine ⟨w, S, RR, Res.to_imp (Res.to_bnd h) (fun dv S1 h1 => ?_) fun _ _ z => z⟩
  intro w1 v H1 s1 R1 x1
  have q := x1.rq
  cases e1 : dv.fz with
  | int j =>
    rw [e1] at h1 q
    have e2 := q.int
    subst e2
    dsimp only at h1
    split at h1
    · rename_i hb
      exact ⟨j, rfl, hb.1, hb.2, h1 _ _ _ s1 R1 itOk_rng⟩
    · exact h1.elim
  | _ => rw [e1] at h1; exact h1.elim
theorem di_rg2 (hg : Gl X "range") (hm : X.mg "range" = none) (ha : DE X W a fa) (hb : DE X W b fb) (hs : starEach [a, b] X.env = [(false, eval a X.env), (false, eval b X.env)] := by rfl) (hs2 : starEach [b] X.env = [(false, eval b X.env)] := by rfl) (hs1 : starEach (a :: [b]) X.env = (false, eval a X.env) :: starEach [b] X.env := by rfl) : DI X W tg (.Call (.Name "range" p) [a, b] [] pos) (iRg2 fa fb) := by
  refine pi_imp (pi_range2 (ta := tCons (tD X.K W fa) (tCons (tD X.K W fb) tNil)) hg hm (pa_cons ha (pa_cons hb pa_nil (by rw [hs2]; rfl)) hs1) hs hs2) fun σ H R hw => ?_
  obtain ⟨w, S, RR, h⟩ := hw
  refine ⟨w, S, RR, Res.to_imp (Res.to_bnd h) (fun dv S1 h1 => ?_) fun _ _ z => z⟩
  intro w1 v H1 s1 R1 x1
  refine ⟨w1, S1, R1, Res.to_imp (Res.to_bnd h1) (fun dv2 S2 h2 => ?_) fun _ _ z => z.later s1⟩
  intro w2 u H2 s2 R2 x2
  have q1 := (x1.later R1 s2).rq
  have q2 := x2.rq
  cases e1 : dv.fz with
  | int i =>
    cases e2 : dv2.fz with
    | int j =>
      rw [e1] at q1
      rw [e2] at q2
      rw [e1, e2] at h2
      have e3 := q1.int
      have e4 := q2.int
      subst e3
      subst e4
      dsimp only at h2
      split at h2
      · rename_i hb
        exact ⟨i, j, rfl, ⟨hb.1.1, hb.1.2, hb.2.1, hb.2.2⟩, h2 _ _ _ (s1.trans s2) R2 itOk_rng⟩
      · exact h2.elim
    | _ => rw [e1, e2] at h2; exact h2.elim
  | _ =>
    rw [e1] at h2
    exact h2.elim
end
/-! ### for -/
def sForL (g : Tg) (body : M Fl) : List D → M Fl
  | [], S => .ok .nx S
  | d :: ds, S => match g d S with
    | none => .stk
    | some S1 => (body S1).bnd fun fl S2 => match fl with
      | .nx => sForL g body ds S2
      | .ct => sForL g body ds S2
      | .br => .ok .nx S2
      | .rt dv => .ok (.rt dv) S2
def sFor (it : M (List D)) (g : Tg) (body : M Fl) : M Fl := fun S => (it S).bnd fun items S1 => sForL g body items S1
section
variable {X : Cx} {W : WX} {tg iter : Expr} {body : List Stmt} {fi : M (List D)} {g : Tg} {fb : M Fl} {pos : Pos}
theorem ds_for (hp : PassesOwn (model X.prog X.w) X.A X.env X.xe) (hc : X.calm = true) (hi : DI X W tg iter fi) (hg : DG X tg g) (hb : DSs X W body fb) (hs : ∀ x, foldedSetIterable iter X.env x = pure x := by intro _; rfl) : DS X W (.For tg iter body [] pos) (sFor fi g fb) := by
  refine ps_imp (ps_for hp hc hi hg hb hs) fun D σ0 H0 hw => ?_
  obtain ⟨w0, S0, R0, h⟩ := hw
  refine ⟨w0, S0, R0, Res.to_imp (Res.to_bnd h) (fun items S1 h1 => ?_) fun _ _ z => z⟩
  intro w1 H1 J s1 R1 it
  refine ⟨fun i m σ H => m + i = items.length ∧ ∃ w S, Stp w0 S0.r σ0 H0 w S.r σ H ∧ Rel X.K w S σ H ∧ ItOk X.K J items w H ∧ (sForL g fb (items.drop i) S).to (okS X.K w0 S0.r σ0 H0 D) (exW X.K W w0 S0.r σ0 H0),
    ⟨items.length, Nat.add_zero _, w1, S1, s1, R1, it, h1⟩, ?_⟩
  rintro i m σ H ⟨em, w, S, s, R, it, h⟩
  obtain ⟨go, stop⟩ := it w H Ltr.refl
  by_cases hi : i < items.length
  · refine .inr ?_
    have ei : items[i]? = some items[i] := List.getElem?_eq_getElem hi
    obtain ⟨g1, g2⟩ := go i _ ei
    rw [List.drop_eq_getElem_cons hi] at h
    unfold sForL at h
    cases eg : g items[i] S with
    | none => rw [eg] at h; exact h.elim
    | some S2 =>
      rw [eg] at h
      dsimp only at h
      refine ⟨g1, fun σ' H' => ∃ w S, Stp w0 S0.r σ0 H0 w S.r σ' H' ∧ Rel X.K w S σ' H' ∧ ItOk X.K J items w H' ∧ (sForL g fb (items.drop (i + 1)) S).to (okS X.K w0 S0.r σ0 H0 D) (exW X.K W w0 S0.r σ0 H0), fun σ' H' n => ⟨m - 1, by omega, by omega, n⟩, fun x H3 y => ?_⟩
      obtain ⟨w3, s3, R3, rp⟩ := g2 x H3 y S σ R
      refine ⟨w3, S, items[i], S2, R3, rp, eg, fun w4 σ4 H4 s4 R4 => ?_⟩
      refine ⟨w4, S2, R4, ?_⟩
      have s04 := (s.trans s3).trans s4
      refine Res.to_imp (Res.to_bnd h) (fun fl S5 h5 => ?_) fun e S5 z => z.later s04
      intro w5 σ5 H5 s5 R5
      have s05 := s04.trans s5
      have it5 : ItOk X.K J items w5 H5 := it.later ((s3.ltr R).trans ((s4.ltr R3).trans (s5.ltr R4)))
      cases fl with
      | nx => exact ⟨w5, S5, s05, R5, it5, h5⟩
      | ct => exact ⟨w5, S5, s05, R5, it5, h5⟩
      | br => exact (show okS X.K w0 S0.r σ0 H0 D .nx S5 from h5) w5 σ5 H5 s05 R5
      | rt dv => exact fun v x => (show okS X.K w0 S0.r σ0 H0 D (.rt dv) S5 from h5) w5 σ5 H5 s05 R5 v (x.start s04)
  · have e : i = items.length := by omega
    subst e
    rw [List.drop_length] at h
    exact .inl ⟨stop, (show okS X.K w0 S0.r σ0 H0 D .nx S from h) w σ H s R⟩
end
/-! ### while -/
def sWhN (c : M Bool) (body : M Fl) : Nat → M Fl
  | 0, _ => .stk
  | n + 1, S => (c S).bnd fun b S1 => if b = true then (body S1).bnd fun fl S2 => match fl with
      | .nx => sWhN c body n S2
      | .ct => sWhN c body n S2
      | .br => .ok .nx S2
      | .rt dv => .ok (.rt dv) S2
    else .ok .nx S1
open Classical in
noncomputable def sWh (c : M Bool) (body : M Fl) : M Fl := fun S => if h : ∃ n, sWhN c body n S ≠ .stk then sWhN c body (Classical.choose h) S else .stk
section
variable {X : Cx} {W : WX} {c : Expr} {body : List Stmt} {fc : M Bool} {fb : M Fl} {pos : Pos}
theorem ds_while (hp : PassesOwn (model X.prog X.w) X.A X.env X.xe) (hc : DT X W c fc) (hb : DSs X W body fb) : DS X W (.While c body [] pos) (sWh fc fb) := by
  refine ps_imp (ps_while hp hc hb) fun D σ0 H0 hw => ?_
  obtain ⟨w0, S0, R0, h⟩ := hw
  have hn : ∃ n, (sWhN fc fb n S0).to (okS X.K w0 S0.r σ0 H0 D) (exW X.K W w0 S0.r σ0 H0) := by
    unfold sWh at h
    split at h
    · rename_i hx
      exact ⟨_, h⟩
    · exact h.elim
  obtain ⟨n0, h⟩ := hn
  refine ⟨fun m σ H => ∃ w S, Stp w0 S0.r σ0 H0 w S.r σ H ∧ Rel X.K w S σ H ∧ (sWhN fc fb m S).to (okS X.K w0 S0.r σ0 H0 D) (exW X.K W w0 S0.r σ0 H0), ⟨n0, w0, S0, Stp.refl, R0, h⟩, ?_⟩
  rintro m σ H ⟨w, S, s, R, h⟩
  cases m with
  | zero => exact h.elim
  | succ m =>
    unfold sWhN at h
    refine ⟨w, S, R, Res.to_imp (Res.to_bnd h) (fun b S1 h1 => ?_) fun e S5 z => z.later s⟩
    intro w1 H1 s1 R1
    have s01 := s.trans s1
    cases b with
    | false => exact (show okS X.K w0 S0.r σ0 H0 D .nx S1 from h1) w1 σ H1 s01 R1
    | true =>
      rw [if_pos rfl] at h1 ⊢
      refine ⟨fun σ' H' => ∃ w S, Stp w0 S0.r σ0 H0 w S.r σ' H' ∧ Rel X.K w S σ' H' ∧ (sWhN fc fb m S).to (okS X.K w0 S0.r σ0 H0 D) (exW X.K W w0 S0.r σ0 H0), fun σ' H' n => ⟨m, Nat.lt_succ_self m, n⟩, w1, S1, R1, ?_⟩
      refine Res.to_imp (Res.to_bnd h1) (fun fl S5 h5 => ?_) fun e S5 z => z.later s01
      intro w5 σ5 H5 s5 R5
      have s05 := s01.trans s5
      cases fl with
      | nx => exact ⟨w5, S5, s05, R5, h5⟩
      | ct => exact ⟨w5, S5, s05, R5, h5⟩
      | br => exact (show okS X.K w0 S0.r σ0 H0 D .nx S5 from h5) w5 σ5 H5 s05 R5
      | rt dv => exact fun v x => (show okS X.K w0 S0.r σ0 H0 D (.rt dv) S5 from h5) w5 σ5 H5 s05 R5 v (x.start s01)
end
end DL
namespace DL
open PySem PySem.Spec PyProof.Rows L2
/-! ### defs -/
inductive FR where
  | ok (dv : DV) (m : List Ob)
  | exc (e : Ex) (m : List Ob)
  | stk
abbrev Fun := List D → List Ob → FR
def FR.to (x : FR) (good : DV → List Ob → Prop) (bad : Ex → List Ob → Prop) : Prop := match x with
  | .ok a s => good a s
  | .exc e s => bad e s
  | .stk => False
def fGood (K : PySem.W.Frag) (w : Wd) (H : Hp) (Q : VK) (dv : DV) (m : List Ob) : Prop := ∀ w' v H', Stp w [] [] H w' [] [] H' → Rel K w' ⟨[], m⟩ [] H' → RV K w' [] [] H H' v dv → Q v H'
def fBad (K : PySem.W.Frag) (w : Wd) (H : Hp) (E : XK) (e : Ex) (m : List Ob) : Prop := ∀ w' dx H', Stp w [] [] H w' [] [] H' → Rel K w' ⟨[], m⟩ [] H' → ExAt K w' H' dx e → E (.ref (He.ga K e.cls)) dx H'
/-- the def at f does what F does, by at most level k, where no repr is under way -/
structure FnG (P : Program) (wo : World) (K : PySem.W.Frag) (mg : Str → Option Value) (base : Heap) (k : Nat) (f : Addr) (fd : FuncData) (ps : List Str) (F : Fun) : Prop where
  run : ∀ (A : Around) (outer : List Env) (s : Shared) (H : Hp) (args : Args) (us : List Value) (vs : List V) (Q : VK) (E : XK) (w : Wd) (m : List Ob) (ds : List D), Room k A → A.guards = some [] → Env0 P wo K mg base A outer s H →
    BindsTo s fd args (ps.zip us) → Vals vs us → vs.length = ps.length → Rel K w ⟨[], m⟩ [] H → Reps K w H vs ds → (F ds m).to (fGood K w H Q) (fBad K w H E) → codeAny (model P wo) A (.call (.ref f) args) (CR (L2.CX P wo) outer P wo H s Q E) s
theorem FnG.mono {P : Program} {wo : World} {K : PySem.W.Frag} {mg : Str → Option Value} {base : Heap} {j k : Nat} {f : Addr} {fd : FuncData} {ps : List Str} {F : Fun} (x : FnG P wo K mg base j f fd ps F) (h : j ≤ k) : FnG P wo K mg base k f fd ps F :=
  ⟨fun A outer s H args us vs Q E w m ds hr => x.run A outer s H args us vs Q E w m ds (hr.mono h)⟩
theorem FnG.eq {P : Program} {wo : World} {K : PySem.W.Frag} {mg : Str → Option Value} {base : Heap} {k : Nat} {f : Addr} {fd : FuncData} {ps : List Str} {F G : Fun} (x : FnG P wo K mg base k f fd ps F) (h : ∀ ds m, F ds m = G ds m) : FnG P wo K mg base k f fd ps G := by
  have e : F = G := funext fun ds => funext fun m => h ds m
  rw [← e]; exact x
section
variable {K : PySem.W.Frag} {w w' : Wd} {S : Sta} {σ : Sg} {H H' : Hp}
theorem Own.nil {a : Addr} : Own w [] [] a ↔ a ∈ w.L := ⟨fun h => h.elim id fun ⟨i, o, e, _⟩ => by simp at e, .inl⟩
/-- the shared part alone -/
theorem Rel.bare (R : Rel K w S σ H) : Rel K w ⟨[], S.m⟩ [] H :=
  ⟨rfl, fun i d e => by simp at e, fun i o e => by simp at e, fun i j o o' a e => by simp at e, R.ml, R.mu, R.nd, R.fd⟩
/-- back in the caller -/
theorem Rel.back {m' : List Ob} (R : Rel K w S σ H) (s : Stp w [] [] H w' [] [] H') (R' : Rel K w' ⟨[], m'⟩ [] H') : Rel K w' ⟨S.r, m'⟩ σ H' ∧ Stp w S.r σ H w' S.r σ H' := by
  have l : Ltr w H w' H' := ⟨s.F, s.L, fun a o f e => s.kp a o e fun z => R.sep f (.inl (Own.nil.mp z))⟩
  have out : ∀ a, H a ≠ none → a ∉ w.L → ¬ w.F a → ¬ w'.F a ∧ a ∉ w'.L := fun a n nl nf => by
    refine ⟨fun f => ?_, fun f => ?_⟩
    · rcases s.fz a f with f | f | f
      · exact nf f
      · exact nl (Own.nil.mp f)
      · exact n f
    · rcases s.ow a (.inl f) with f | f
      · exact nl (Own.nil.mp f)
      · exact n f
  refine ⟨⟨R.len, fun i d e => ?_, fun i o e => ?_, R.inj, R'.ml, R'.mu, R'.nd, R'.fd⟩, ⟨fun a o e n => s.kp a o e fun z => n (.inl (Own.nil.mp z)), fun a h => ?_, fun a f => ?_, s.F, s.L, s.dm⟩⟩
  · obtain ⟨v, h1, h2⟩ := R.sl i d e
    exact ⟨v, h1, h2.later l⟩
  · obtain ⟨a, h1, h2, h3, h4⟩ := R.ow i o e
    obtain ⟨h5, h6⟩ := out a h2.there h4 h3
    exact ⟨a, h1, h2.later l (fun u q => s.kp a u q fun z => h4 (Own.nil.mp z)), h5, h6⟩
  · rcases h with h | h
    · rcases s.ow a (.inl h) with q | q
      · exact .inl (.inl (Own.nil.mp q))
      · exact .inr q
    · exact .inl (.inr h)
  · rcases s.fz a f with q | q | q
    · exact .inl q
    · exact .inr (.inl (.inl (Own.nil.mp q)))
    · exact .inr (.inr q)
theorem RV.back {v : V} {dv : DV} (R : Rel K w S σ H) (s : Stp w [] [] H w' [] [] H') (x : RV K w' [] [] H H' v dv) : RV K w' S.r σ H H' v dv := by
  cases dv with
  | val d => exact x
  | new o =>
    obtain ⟨a, e, x, nf, no, h0⟩ := x
    refine ⟨a, e, x, nf, fun z => ?_, h0⟩
    rcases z with z | ⟨i, o', e1, e2⟩
    · exact no (.inl z)
    · exact R.owned (.inr ⟨i, o', e1, e2⟩) h0
end
def frRes (S : Sta) : FR → Res DV
  | .ok dv m => .ok dv ⟨S.r, m⟩
  | .exc e m => .exc e ⟨S.r, m⟩
  | .stk => .stk
@[simp] theorem frRes_ok (S : Sta) (dv : DV) (m : List Ob) : frRes S (.ok dv m) = .ok dv ⟨S.r, m⟩ := id rfl
@[simp] theorem frRes_exc (S : Sta) (e : Ex) (m : List Ob) : frRes S (.exc e m) = .exc e ⟨S.r, m⟩ := id rfl
@[simp] theorem frRes_stk (S : Sta) : frRes S .stk = .stk := id rfl
def mFn (F : Fun) (a : M (List D)) : M DV := fun S => (a S).bnd fun ds S1 => frRes S1 (F ds S1.m)
section
variable {X : Cx} {W : WX} {k : Nat} {f : Addr} {fd : FuncData} {ps : List Str} {F : Fun}
/-- the callee runs -/
theorem run_fnG {pins : List (Addr × Obj)} {σ : Sg} {H : Hp} {s : Shared} {Q : VK} {us : List Value} {vs : List V} {w : Wd} {S : Sta} {ds : List D} (G : FnG X.prog X.w X.K X.mg X.base k f fd ps F) (hr : Room k X.A) (hgd : X.A.guards = some []) (hb : Binds X.K fd ps []) (tk : Takes X W)
    (I : Inv X pins σ H s) (r : Vals vs us) (hl : vs.length = ps.length) (R : Rel X.K w S σ H) (q : Reps X.K w H vs ds) (h : (frRes S (F ds S.m)).to (okD X.K w S.r σ H Q) (exW X.K W w S.r σ H)) : wpAny (model X.prog X.w) X.A (call (.ref f) us) (EP X pins σ Q) X.xe s := by
  have hlu : (us ++ ([] : List Value)).length = ps.length := by rw [List.append_nil, ← r.length]; exact hl
  have bd : BindsTo s fd ⟨us, []⟩ (ps.zip us) := by
    have b0 := hb s us I.kIn hlu
    rw [List.append_nil] at b0
    exact b0
  have goal : (F ds S.m).to (fGood X.K w H Q) (fBad X.K w H (WE W σ)) := by
    cases e : F ds S.m with
    | ok dv m =>
      rw [e] at h
      intro w' v H' s' R' x
      obtain ⟨R2, s2⟩ := R.back s' R'
      exact (show okD X.K w S.r σ H Q dv ⟨S.r, m⟩ from h) w' v H' s2 R2 (RV.back (S := S) R s' x)
    | exc e' m =>
      rw [e] at h
      intro w' dx H' s' R' x
      obtain ⟨R2, s2⟩ := R.back s' R'
      exact (show exW X.K W w S.r σ H e' ⟨S.r, m⟩ from h) w' dx σ H' s2 R2 x
    | stk => rw [e] at h; exact h
  refine wpAny_call (codeAny_mono (G.run X.A X.stack s H ⟨us, []⟩ us vs Q (WE W σ) w S.m ds hr hgd I.env0 bd r hl R.bare q goal) fun rr s' hq => ?_)
  cases rr with
  | error e => exact passAt tk σ pins H s e s' I hq
  | ok fl =>
    cases fl with
    | ret u => exact I.after hq
    | next => exact False.elim hq
    | brk => exact False.elim hq
    | cont => exact False.elim hq
/-- a def that may be called by its name -/
structure CalG (P : Program) (wo : World) (K : PySem.W.Frag) (mg : Str → Option Value) (base : Heap) (k n : Nat) (x : Str) (F : Fun) : Prop where
  ex : ∃ (f : Addr) (fd : FuncData) (ps : List Str), FnG P wo K mg base k f fd ps F ∧ mg x = some (.ref f) ∧ PySem.W.keepIn K (.ref f) = true ∧ Binds K fd ps [] ∧ ps.length = n
variable {x : Str} {p pos : Pos} {e : Expr} {es : List Expr} {fa : M (List D)} {n : Nat}
theorem CalG.mono {P : Program} {wo : World} {K : PySem.W.Frag} {mg : Str → Option Value} {base : Heap} {j : Nat} (c : CalG P wo K mg base k n x F) (h : k ≤ j) : CalG P wo K mg base j n x F := by
  obtain ⟨f, fd, ps, G, h1⟩ := c.ex
  exact ⟨f, fd, ps, G.mono h, h1⟩
theorem de_call (c : CalG X.prog X.w X.K X.mg X.base k n x F) (hr : Room k X.A) (hgd : X.A.guards = some []) (tk : Takes X W) (hg : Gl X x) (ha : DA X W (e :: es) fa) (hn : (e :: es).length = n := by rfl)
    (hdb : (x == ("__debug__" : Str)) = false := by decide) (he : starEach (e :: es) X.env = (false, eval e X.env) :: starEach es X.env := by rfl) (hpl : (backTo pos (starEach es X.env)).any (·.1) = false := by rfl) (hal : ∀ S ds S', fa S = .ok ds S' → ds.length = n) :
    DE X W (.Call (.Name x p) (e :: es) [] pos) (mFn F fa) := by
  obtain ⟨f, fd, ps, G, hm, hk, hb, hps⟩ := c.ex
  refine ⟨fun pins s σ H Q I hw => ?_⟩
  obtain ⟨w, S, R, h⟩ := hw
  have h2 := Res.to_bnd h
  have hA : tDA X.K W fa σ H fun vs H1 => ∃ w S1 ds, Rel X.K w S1 σ H1 ∧ Reps X.K w H1 vs ds ∧ ds.length = n ∧ (frRes S1 (F ds S1.m)).to (okD X.K w S1.r σ H1 Q) (exW X.K W w S1.r σ H1) := by
    refine ⟨w, S, R, ?_⟩
    cases e1 : fa S with
    | ok ds S1 =>
      rw [e1] at h2
      intro w1 vs H1 s1 R1 q1
      exact ⟨w1, S1, ds, R1, q1, hal _ _ _ e1, Res.to_imp h2 (fun _ _ z => okD.later s1 z) fun _ _ z => z.later s1⟩
    | exc x1 S1 => rw [e1] at h2; exact h2
    | stk => rw [e1] at h2; exact h2
  refine wpAny_Call_Name_kw (ld_glob I hg hm ?_ hdb)
  refine PySem.W.callWith_K (h₀ := X.base) I.ok.mod.kin hk (thn (ha.run pos pins s σ H _ I hA) fun us s1 hv => ?_) he hpl
  obtain ⟨vs, H1, I1, rv, w1, S1, ds, R1, q1, hl, h3⟩ := hv
  exact ⟨I1.kIn, run_fnG G hr hgd hb tk I1 rv (by rw [q1.length, hl, hps]) R1 q1 h3⟩
theorem mANil_len : ∀ S ds S', mANil S = .ok ds S' → ds.length = 0 := fun S ds S' h => by cases h; rfl
theorem mACons_len {a : M DV} {r : M (List D)} (h : ∀ S ds S', r S = .ok ds S' → ds.length = n) : ∀ S ds S', mACons a r S = .ok ds S' → ds.length = n + 1 := fun S ds S' e => by
  unfold mACons at e
  cases e1 : a S with
  | ok x S1 =>
    rw [e1] at e
    dsimp only [Res.bnd] at e
    cases e2 : r S1 with
    | ok xs S2 =>
      rw [e2] at e
      cases e
      rw [List.length_cons, h _ _ _ e2]
    | exc _ _ => rw [e2] at e; cases e
    | stk => rw [e2] at e; cases e
  | exc _ _ => rw [e1] at e; cases e
  | stk => rw [e1] at e; cases e
/-- a def without parameters -/
theorem de_call0 (c : CalG X.prog X.w X.K X.mg X.base k 0 x F) (hr : Room k X.A) (hgd : X.A.guards = some []) (tk : Takes X W) (hg : Gl X x) (hdb : (x == ("__debug__" : Str)) = false := by decide) : DE X W (.Call (.Name x p) [] [] pos) (mFn F mANil) := by
  obtain ⟨f, fd, ps, G, hm, hk, hb, hps⟩ := c.ex
  refine ⟨fun pins s σ H Q I hw => ?_⟩
  obtain ⟨w, S, R, h⟩ := hw
  refine wpAny_Call_Name_kw (ld_glob I hg hm ?_ hdb)
  exact PySem.W.callWith_K0 I.kIn hk (run_fnG (us := []) (vs := []) (ds := []) G hr hgd hb tk I .nil (by rw [hps]; rfl) R .nil h)
end
/-! ### a def by its body -/
/-- what a body makes of its parameters -/
def bodyF (n : Nat) (f : M Fl) : Fun := fun ds m => match f ⟨ds.map Sl.val ++ List.replicate (n - ds.length) Sl.no, m⟩ with
  | .ok .nx S => .ok (.val .non) S.m
  | .ok (.rt dv) S => .ok dv S.m
  | .ok _ _ => .stk
  | .exc e S => .exc e S.m
  | .stk => .stk
section
variable {K : PySem.W.Frag} {w w' : Wd} {H H' : Hp} {m : List Ob}
theorem rel_start {n : Nat} {vs : List V} {ds : List D} (R : Rel K w ⟨[], m⟩ [] H) (q : Reps K w H vs ds) (N : List Str) (hn : N.length = n) : Rel K w ⟨ds.map Sl.val ++ List.replicate (n - ds.length) Sl.no, m⟩ (L2.start N vs) H := by
  have nown : ∀ (i : Nat) (o : Ob), (ds.map Sl.val ++ List.replicate (n - ds.length) Sl.no)[i]? ≠ some (Sl.own o) := fun i o e => by
    have := List.mem_of_getElem? e
    rcases List.mem_append.mp this with h | h
    · obtain ⟨d, _, e⟩ := List.mem_map.mp h; cases e
    · have := (List.mem_replicate.mp h).2; cases this
  refine ⟨?_, fun i d e => ?_, fun i o e => (nown i o e).elim, fun i j o o' a e => (nown i o e).elim, R.ml, R.mu, R.nd, R.fd⟩
  · simp [L2.start, q.length, hn]
  · by_cases hi : i < ds.length
    · rw [List.getElem?_append_left (by simpa using hi), List.getElem?_map] at e
      obtain ⟨d', e1, e2⟩ := Option.map_eq_some_iff.mp e
      cases e2
      obtain ⟨v, e3, rp⟩ := q.get e1
      refine ⟨v, ?_, rp⟩
      unfold L2.start
      rw [List.getElem?_append_left (by simp [q.length, hi]), List.getElem?_map, e3]
      rfl
    · rw [List.getElem?_append_right (by simp; omega)] at e
      have := List.mem_of_getElem? e
      have := (List.mem_replicate.mp this).2
      cases this
/-- from a body's end: the slots are forgotten -/
theorem stp_end {r r' : List Sl} {σ σ' : Sg} (h0 : ∀ a, Own w r σ a → a ∈ w.L) (s : Stp w r σ H w' r' σ' H') : Stp w [] [] H w' [] [] H' where
  kp := fun a o e n => s.kp a o e fun z => n (.inl (h0 a z))
  ow := fun a h => (s.ow a (.inl (Own.nil.mp h))).elim (fun z => .inl (.inl (h0 a z))) .inr
  fz := fun a f => by
    rcases s.fz a f with q | q | q
    · exact .inl q
    · exact .inr (.inl (.inl (h0 a q)))
    · exact .inr (.inr q)
  F := s.F
  L := s.L
  dm := s.dm
end
/-- a def by its body: nm its names, the parameters first -/
theorem fnG_of {P : Program} {wo : World} {K : PySem.W.Frag} {mg : Str → Option Value} {base : Heap} {k : Nat} {f : Addr} {name qual : Str} {params : Arguments} {body : List Stmt} {scope : Scope} {dV kV doc pm cdv ct oc : Value} {an od : Option Addr}
    {osl : Array (Option Value)} {N ps : List Str} {n : Nat} {F : M Fl} (lk : K.lookup f = some ⟨oc, od, .func (PySem.W.fnOf name qual params body scope dV kV doc pm an cdv ct), osl⟩) (hcd : PySem.W.codeIn K cdv qual = true) (S : FnScope N ps scope) (hn : N.length = n)
    (hbody : ∀ (A : Around) (outer : List Env) (s : Shared) (H : Hp) (E : XK), Room k (A.deeper (envOfC qual scope s.heap.objs.size f cdv)) → A.guards = some [] →
      DSs (cxOf (L2.CX P wo) P wo K mg base N qual scope f cdv A outer s H E) (fun cls d _ H => E cls d H) body F) :
    FnG P wo K mg base (k + 1) f (PySem.W.fnOf name qual params body scope dV kV doc pm an cdv ct) ps (bodyF n F) := by
  refine ⟨fun A outer s H args us vs Q E w m ds hr hgd e0 hb r hl R q h => ?_⟩
  refine LamX.run_ofS lk hcd S hr e0 hb r hl fun hr1 => ⟨_, hbody A outer s H E hr1 hgd, ?_⟩
  have R1 := rel_start R q N hn
  refine ⟨w, _, R1, ?_⟩
  have h0 : ∀ a, Own w (ds.map Sl.val ++ List.replicate (n - ds.length) Sl.no) (L2.start N vs) a → a ∈ w.L := fun a z => by
    rcases z with z | ⟨i, o, e, _⟩
    · exact z
    · have := List.mem_of_getElem? e
      rcases List.mem_append.mp this with h | h
      · obtain ⟨d, _, e⟩ := List.mem_map.mp h; cases e
      · have := (List.mem_replicate.mp h).2; cases this
  unfold bodyF at h
  cases e1 : F ⟨ds.map Sl.val ++ List.replicate (n - ds.length) Sl.no, m⟩ with
  | ok fl S1 =>
    rw [e1] at h
    intro w' σ' H' s' R'
    have s2 := stp_end h0 s'
    cases fl with
    | nx => exact (show fGood K w H Q (.val .non) S1.m from h) w' .non H' s2 R'.bare Rep.non
    | rt dv =>
      intro v x
      refine (show fGood K w H Q dv S1.m from h) w' v H' s2 R'.bare ?_
      cases dv with
      | val d => exact x
      | new o =>
        obtain ⟨a, e, x, nf, no, hh⟩ := x
        exact ⟨a, e, x, nf, fun z => no (.inl (Own.nil.mp z)), hh⟩
    | br => exact h.elim
    | ct => exact h.elim
  | exc ex S1 =>
    rw [e1] at h
    intro w' dx σ' H' s' R' x
    exact (show fBad K w H E ex S1.m from h) w' dx H' (stp_end h0 s') R'.bare x
  | stk => rw [e1] at h; exact h.elim
end DL
namespace DL
open PySem PySem.Spec PyProof.Rows L2
/-! ### comprehensions -/
/-- the block's own slots are forgotten -/
def wp : List Nat → List Sl → List Sl
  | [], r => r
  | i :: vs, r => (wp vs r).set i .no
/-- .. and come back -/
def mrg (r0 : List Sl) : List Nat → List Sl → List Sl
  | [], r => r
  | i :: vs, r => (mrg r0 vs r).set i (r0.getD i .no)
@[simp] theorem wp_nil (r : List Sl) : wp [] r = r := id rfl
@[simp] theorem wp_cons (i : Nat) (vs : List Nat) (r : List Sl) : wp (i :: vs) r = (wp vs r).set i .no := id rfl
@[simp] theorem mrg_nil (r0 r : List Sl) : mrg r0 [] r = r := id rfl
@[simp] theorem mrg_cons (i : Nat) (vs : List Nat) (r0 r : List Sl) : mrg r0 (i :: vs) r = (mrg r0 vs r).set i (r0.getD i .no) := id rfl
@[simp] theorem wp_len (vs : List Nat) (r : List Sl) : (wp vs r).length = r.length := by
  induction vs with
  | nil => rfl
  | cons i vs ih => simp [ih]
@[simp] theorem mrg_len (r0 : List Sl) (vs : List Nat) (r : List Sl) : (mrg r0 vs r).length = r.length := by
  induction vs with
  | nil => rfl
  | cons i vs ih => simp [ih]
theorem wp_in {vs : List Nat} {r : List Sl} {i : Nat} (h : i ∈ vs) : (wp vs r)[i]? = none ∨ (wp vs r)[i]? = some .no := by
  induction vs with
  | nil => cases h
  | cons j vs ih =>
    rw [wp_cons]
    by_cases hj : i = j
    · subst hj
      by_cases hl : i < (wp vs r).length
      · right; rw [List.getElem?_set_self hl]
      · left; exact List.getElem?_eq_none_iff.mpr (by rw [List.length_set]; omega)
    · rw [List.getElem?_set_ne (Ne.symm hj)]
      exact ih (List.mem_of_ne_of_mem hj h)
theorem wp_out {vs : List Nat} {r : List Sl} {i : Nat} (h : i ∉ vs) : (wp vs r)[i]? = r[i]? := by
  induction vs with
  | nil => rfl
  | cons j vs ih =>
    rw [wp_cons, List.getElem?_set_ne (fun e => h (by rw [← e]; exact List.mem_cons_self))]
    exact ih fun z => h (List.mem_cons_of_mem _ z)
theorem mrg_in {r0 : List Sl} {vs : List Nat} {r : List Sl} {i : Nat} (h : i ∈ vs) (hl : i < r.length) (hl0 : i < r0.length) : (mrg r0 vs r)[i]? = r0[i]? := by
  induction vs with
  | nil => cases h
  | cons j vs ih =>
    rw [mrg_cons]
    by_cases hj : i = j
    · subst hj
      rw [List.getElem?_set_self (by simpa using hl), List.getElem?_eq_getElem hl0]
      simp [List.getD, hl0]
    · rw [List.getElem?_set_ne (Ne.symm hj)]
      exact ih (List.mem_of_ne_of_mem hj h)
theorem mrg_out {r0 : List Sl} {vs : List Nat} {r : List Sl} {i : Nat} (h : i ∉ vs) : (mrg r0 vs r)[i]? = r[i]? := by
  induction vs with
  | nil => rfl
  | cons j vs ih =>
    rw [mrg_cons, List.getElem?_set_ne (fun e => h (by rw [← e]; exact List.mem_cons_self))]
    exact ih fun z => h (List.mem_cons_of_mem _ z)
theorem wipe_out {vs : List Nat} {σ : Sg} {i : Nat} (h : i ∉ vs) : (wipe σ vs)[i]? = σ[i]? := by
  induction vs with
  | nil => rfl
  | cons j vs ih =>
    show ((wipe σ vs).set j none)[i]? = _
    rw [List.getElem?_set_ne (fun e => h (by rw [← e]; exact List.mem_cons_self))]
    exact ih fun z => h (List.mem_cons_of_mem _ z)
section
variable {K : PySem.W.Frag} {w w1 : Wd} {S S1 S2 : Sta} {σ : Sg} {H H1 : Hp} {vs : List Nat}
theorem wp_own {r : List Sl} {i : Nat} {o : Ob} (h : (wp vs r)[i]? = some (Sl.own o)) : i ∉ vs ∧ r[i]? = some (Sl.own o) := by
  by_cases hi : i ∈ vs
  · rcases wp_in (r := r) hi with e | e
    · rw [e] at h; cases h
    · rw [e] at h; cases h
  · exact ⟨hi, by rw [wp_out hi] at h; exact h⟩
theorem wp_Own {r : List Sl} {a : Addr} (h : Own w (wp vs r) (wipe σ vs) a) : Own w r σ a := by
  rcases h with h | ⟨i, o, e1, e2⟩
  · exact .inl h
  · obtain ⟨hi, e⟩ := wp_own e1
    rw [wipe_out hi] at e2
    exact .inr ⟨i, o, e, e2⟩
theorem Rel.wipe (R : Rel K w S σ H) (vs : List Nat) : Rel K w ⟨wp vs S.r, S.m⟩ (wipe σ vs) H ∧ Stp w S.r σ H w (wp vs S.r) (L2.wipe σ vs) H := by
  refine ⟨⟨by rw [wp_len, wipe_length, R.len], fun i d e => ?_, fun i o e => ?_, fun i j o o' a e e' h h' => ?_, R.ml, R.mu, R.nd, R.fd⟩, ⟨fun _ _ e _ => e, fun a h => .inl (wp_Own h), fun _ h => .inl h, fun _ h => h, List.prefix_refl _, fun _ h => h⟩⟩
  · by_cases hi : i ∈ vs
    · rcases wp_in (r := S.r) hi with e1 | e1
      · rw [show (⟨wp vs S.r, S.m⟩ : Sta).r = wp vs S.r from rfl, e1] at e; cases e
      · rw [show (⟨wp vs S.r, S.m⟩ : Sta).r = wp vs S.r from rfl, e1] at e; cases e
    · rw [show (⟨wp vs S.r, S.m⟩ : Sta).r = wp vs S.r from rfl, wp_out hi] at e
      obtain ⟨v, h1, h2⟩ := R.sl i d e
      exact ⟨v, by rw [wipe_out hi]; exact h1, h2⟩
  · obtain ⟨hi, e⟩ := wp_own (show (wp vs S.r)[i]? = _ from e)
    obtain ⟨a, h1, h2⟩ := R.ow i o e
    exact ⟨a, by rw [wipe_out hi]; exact h1, h2⟩
  · obtain ⟨hi, e⟩ := wp_own (show (wp vs S.r)[i]? = _ from e)
    obtain ⟨hj, e'⟩ := wp_own (show (wp vs S.r)[j]? = _ from e')
    rw [wipe_out hi] at h
    rw [wipe_out hj] at h'
    exact R.inj i j o o' a e e' h h'
/-- out of the block -/
theorem Rel.unwipe {r2 : List Sl} {m2 : List Ob} (R1 : Rel K w1 S1 σ H1) (s : Stp w1 (wp vs S1.r) (L2.wipe σ vs) H1 w (wp vs r2) (L2.wipe σ vs) H) (R2 : Rel K w ⟨wp vs r2, m2⟩ (L2.wipe σ vs) H) :
    Rel K w ⟨mrg S1.r vs r2, m2⟩ σ H ∧ Stp w1 S1.r σ H1 w (mrg S1.r vs r2) σ H := by
  have sep : ∀ a, w1.F a → ¬ Own w1 (wp vs S1.r) (L2.wipe σ vs) a := fun a f z => R1.sep f (wp_Own z)
  have l : Ltr w1 H1 w H := ⟨s.F, s.L, fun a o f e => s.kp a o e (sep a f)⟩
  have len2 : r2.length = σ.length := by
    have h := R2.len
    rw [show (⟨wp vs r2, m2⟩ : Sta).r = wp vs r2 from rfl, wp_len, wipe_length] at h
    exact h
  have len1 : S1.r.length = r2.length := by rw [R1.len, len2]
  -- an old owned slot of the block's own names
  have hid : ∀ i o a, i ∈ vs → S1.r[i]? = some (Sl.own o) → σ[i]? = some (some (V.ref a)) → ¬ Own w1 (wp vs S1.r) (L2.wipe σ vs) a := fun i o a hi e h z => by
    rcases z with z | ⟨j, o', e1, e2⟩
    · obtain ⟨b, h1, _, _, h4⟩ := R1.ow i o e
      rw [h] at h1; cases h1
      exact h4 z
    · obtain ⟨hj, e1⟩ := wp_own e1
      rw [wipe_out hj] at e2
      have := R1.inj i j o o' a e e1 h e2
      subst this
      exact hj hi
  have get : ∀ (i : Nat) (x : Sl), (mrg S1.r vs r2)[i]? = some x → (i ∈ vs ∧ S1.r[i]? = some x) ∨ (i ∉ vs ∧ (wp vs r2)[i]? = some x) := fun i x e => by
    have hl : i < r2.length := by
      have := (List.getElem?_eq_some_iff.mp e).1
      simpa using this
    by_cases hi : i ∈ vs
    · rw [mrg_in hi hl (by omega)] at e
      exact .inl ⟨hi, e⟩
    · rw [mrg_out hi] at e
      exact .inr ⟨hi, by rw [wp_out hi]; exact e⟩
  refine ⟨⟨by rw [show (⟨mrg S1.r vs r2, m2⟩ : Sta).r = mrg S1.r vs r2 from rfl, mrg_len, len2], fun i d e => ?_, fun i o e => ?_, fun i j o o' a e e' h h' => ?_, R2.ml, R2.mu, R2.nd, R2.fd⟩,
    ⟨fun a o e n => s.kp a o e fun z => n (wp_Own z), fun a h => ?_, fun a f => ?_, s.F, s.L, s.dm⟩⟩
  · rcases get i _ e with ⟨hi, e⟩ | ⟨hi, e⟩
    · obtain ⟨v, h1, h2⟩ := R1.sl i d e
      exact ⟨v, h1, h2.later l⟩
    · obtain ⟨v, h1, h2⟩ := R2.sl i d e
      rw [wipe_out hi] at h1
      exact ⟨v, h1, h2⟩
  · rcases get i _ e with ⟨hi, e⟩ | ⟨hi, e⟩
    · obtain ⟨a, h1, h2, h3, h4⟩ := R1.ow i o e
      have no := hid i o a hi e h1
      refine ⟨a, h1, h2.later l (fun u q => s.kp a u q no), fun f => ?_, fun f => ?_⟩
      · rcases s.fz a f with f | f | f
        · exact h3 f
        · exact no f
        · exact h2.there f
      · rcases s.ow a (.inl f) with f | f
        · exact no f
        · exact h2.there f
    · obtain ⟨a, h1, h2⟩ := R2.ow i o e
      rw [wipe_out hi] at h1
      exact ⟨a, h1, h2⟩
  · rcases get i _ e with ⟨hi, e⟩ | ⟨hi, e⟩
    · rcases get j _ e' with ⟨hj, e'⟩ | ⟨hj, e'⟩
      · exact R1.inj i j o o' a e e' h h'
      · exfalso
        obtain ⟨b, h1, h2, _⟩ := R1.ow i o e
        rw [h] at h1; cases h1
        rcases s.ow a (.inr ⟨j, o', e', by rw [wipe_out hj]; exact h'⟩) with f | f
        · exact hid i o a hi e h f
        · exact h2.there f
    · rcases get j _ e' with ⟨hj, e'⟩ | ⟨hj, e'⟩
      · exfalso
        obtain ⟨b, h1, h2, _⟩ := R1.ow j o' e'
        rw [h'] at h1; cases h1
        rcases s.ow a (.inr ⟨i, o, e, by rw [wipe_out hi]; exact h⟩) with f | f
        · exact hid j o' a hj e' h' f
        · exact h2.there f
      · exact R2.inj i j o o' a e e' (by rw [wipe_out hi]; exact h) (by rw [wipe_out hj]; exact h')
  · rcases h with h | ⟨i, o, e, h⟩
    · exact (s.ow a (.inl h)).elim (fun z => .inl (wp_Own z)) .inr
    · rcases get i _ e with ⟨hi, e⟩ | ⟨hi, e⟩
      · exact .inl (.inr ⟨i, o, e, h⟩)
      · exact (s.ow a (.inr ⟨i, o, e, by rw [wipe_out hi]; exact h⟩)).elim (fun z => .inl (wp_Own z)) .inr
  · rcases s.fz a f with q | q | q
    · exact .inl q
    · exact .inr (.inl (wp_Own q))
    · exact .inr (.inr q)
/-- an object that nobody knows is written -/
theorem Rel.poke {p : Addr} {o : HO} (R : Rel K w S σ H) (nf : ¬ w.F p) (no : ¬ Own w S.r σ p) : Rel K w S σ (upd H p o) := by
  refine R.grow ⟨fun _ h => h, List.prefix_refl _, fun a u f e => ?_⟩ rfl (fun a u e z => ?_) (fun a f => R.sep f) fun a f => ?_
  · rw [upd_ne (fun h => nf (by rw [← h]; exact f))]; exact e
  · rw [upd_ne (fun h => no (by rw [← h]; exact z))]; exact e
  · unfold L2.upd
    split
    · exact fun z => nomatch z
    · exact R.fd a f
end
/-- an exception is no way on -/
def Res.nox {α : Type} : Res α → Res α
  | .ok a s => .ok a s
  | _ => .stk
@[simp] theorem Res.nox_ok {α : Type} (a : α) (s : Sta) : (Res.ok a s).nox = .ok a s := id rfl
@[simp] theorem Res.nox_stk {α : Type} : (Res.stk : Res α).nox = .stk := id rfl
@[simp] theorem Res.nox_exc {α : Type} (e : Ex) (s : Sta) : (Res.exc e s : Res α).nox = .stk := id rfl
def lcL (vs : List Nat) (g : Tg) (t : M Bool) (el : M DV) : List D → List D → M (List D)
  | [], acc, S => .ok acc S
  | d :: ds, acc, S => match g d ⟨wp vs S.r, S.m⟩ with
    | none => .stk
    | some S1 => (t S1).nox.bnd fun b S2 => if b = true then (el S2).nox.bnd fun dv S3 => if acc.length < sizeLine then lcL vs g t el ds (acc ++ [dv.fz]) S3 else .stk
      else lcL vs g t el ds acc S2
def mLc (it : M (List D)) (vs : List Nat) (g : Tg) (t : M Bool) (el : M DV) : M DV := fun S => (it S).bnd fun items S1 => (lcL vs g t el items [] S1).bnd fun ds S2 => .ok (.new (.lst ds)) ⟨mrg S1.r vs S2.r, S2.m⟩
def mYes : M Bool := fun S => .ok true S
abbrev DTs (X : Cx) (W : WX) (ifs : List Expr) (f : M Bool) : Prop := PTs X ifs (tDT X.K W f)
def w0 : WX := fun _ _ _ _ => False
/-- a target's raw reading does what g does, within the slots vs -/
def TgOk (K : PySem.W.Frag) (vs : List Nat) (g0 : TG) (g : Tg) : Prop := ∀ (w : Wd) (S : Sta) (σ : Sg) (H : Hp) (v : V) (d : D) (S' : Sta) (Q : L2.St → Hp → Prop), Rel K w S σ H → Rep K w H v d → g d S = some S' →
  (∀ σ', wipe σ' vs = wipe σ vs → Stp w S.r σ H w S'.r σ' H → Rel K w S' σ' H → Q σ' H) → g0 v σ H Q
def TgsOk (K : PySem.W.Frag) (vs : List Nat) (g0 : TGs) (g : Tgs) : Prop := ∀ (w : Wd) (S : Sta) (σ : Sg) (H : Hp) (v : List V) (d : List D) (S' : Sta) (Q : L2.St → Hp → Prop), Rel K w S σ H → Reps K w H v d → g d S = some S' →
  (∀ σ', wipe σ' vs = wipe σ vs → Stp w S.r σ H w S'.r σ' H → Rel K w S' σ' H → Q σ' H) → g0 v σ H Q
theorem wipe_set {i : Nat} {x : Option V} : ∀ {vs : List Nat} {σ : Sg}, i ∈ vs → wipe (σ.set i x) vs = wipe σ vs
  | [], _, h => nomatch h
  | j :: vs, σ, h => by
    show (wipe (σ.set i x) vs).set j none = (wipe σ vs).set j none
    by_cases hm : i ∈ vs
    · rw [wipe_set hm]
    · have e : i = j := by
        rcases List.mem_cons.mp h with e | e
        · exact e
        · exact absurd e hm
      subst e
      have key : ∀ (us : List Nat) (τ : Sg), i ∉ us → wipe (τ.set i x) us = (wipe τ us).set i x := by
        intro us
        induction us with
        | nil => intro τ _; rfl
        | cons k us ih =>
          intro τ hn
          show (wipe (τ.set i x) us).set k none = ((wipe τ us).set k none).set i x
          rw [ih τ (fun z => hn (List.mem_cons_of_mem _ z)), List.set_comm _ _ (fun e => hn (by rw [e]; exact List.mem_cons_self))]
      rw [key vs σ hm, List.set_set]
theorem wipe_wipe (σ : Sg) (vs : List Nat) : wipe (wipe σ vs) vs = wipe σ vs := by
  have key : ∀ (us : List Nat) (τ : Sg), (∀ i ∈ us, i ∈ vs) → wipe (wipe τ us) vs = wipe τ vs := by
    intro us
    induction us with
    | nil => intro τ _; rfl
    | cons k us ih =>
      intro τ h
      show wipe ((wipe τ us).set k none) vs = _
      rw [wipe_set (h k List.mem_cons_self)]
      exact ih τ fun i hi => h i (List.mem_cons_of_mem _ hi)
  exact key vs σ fun _ h => h
section
variable {K : PySem.W.Frag} {vs : List Nat}
theorem tgok_name {i : Nat} (h : i ∈ vs) : TgOk K vs (gName i) (gV i) := fun w S σ H v d S' Q R x e hq => by
  cases e
  obtain ⟨R1, s1⟩ := R.put i x
  exact hq _ (wipe_set h) s1 R1
theorem tgsok_nil : TgsOk K vs L2.gNil gsNil := fun w S σ H v d S' Q R x e hq => by
  cases x with
  | nil => cases e; exact ⟨rfl, hq σ rfl Stp.refl R⟩
  | cons _ _ => cases e
theorem tgsok_cons {g0 : TG} {g : Tg} {t0 : TGs} {t : Tgs} (h1 : TgOk K vs g0 g) (h2 : TgsOk K vs t0 t) : TgsOk K vs (L2.gCons g0 t0) (gsCons g t) := fun w S σ H v d S' Q R x e hq => by
  cases x with
  | nil => cases e
  | cons rr rs =>
    obtain ⟨S1, e1, e2⟩ := Option.bind_eq_some_iff.mp e
    refine ⟨_, _, rfl, h1 w S σ H _ _ S1 _ R rr e1 fun σ1 q1 s1 R1 => ?_⟩
    exact h2 w S1 σ1 H _ _ S' Q R1 rs e2 fun σ2 q2 s2 R2 => hq σ2 (q2.trans q1) (s1.trans s2) R2
theorem tgok_tup {n : Nat} {t0 : TGs} {t : Tgs} (h : TgsOk K vs t0 t) (hl : ∀ ds S S', t ds S = some S' → ds.length = n) : TgOk K vs (L2.gTup K n t0) (gT t) := fun w S σ H v d S' Q R x e hq => by
  cases d with
  | tup ds =>
    obtain ⟨a, xs, e1, h1, h2⟩ := Rq.tup (.inl x)
    exact ⟨a, xs, e1, h1, by rw [h2.length]; exact hl ds S S' e, h w S σ H xs ds S' Q R h2 e hq⟩
  | _ => cases e
end
theorem Res.nox_to {α : Type} {x : Res α} {g : α → Sta → Prop} {b b' : Ex → Sta → Prop} (h : x.nox.to g b) : x.to g b' := by
  cases x with
  | ok a s => exact h
  | exc e s => exact h.elim
  | stk => exact h.elim
/-- the reading of a comprehension -/
theorem lc_red {K : PySem.W.Frag} {W : WX} {fi : M (List D)} {g0 : TG} {g : Tg} {t : M Bool} {el : M DV} {vs : List Nat} {σ : Sg} {H : Hp} {Q : VK} (ok : TgOk K vs g0 g) (h : tD K W (mLc fi vs g t el) σ H Q) : tLc (tI K W fi) g0 (tDT K w0 t) (tD K w0 el) vs σ H Q := by
  obtain ⟨wa, S0, R0, h⟩ := h
  refine ⟨wa, S0, R0, Res.to_imp (Res.to_bnd h) (fun items S1 h1 => ?_) fun _ _ z => z⟩
  intro w1 H1 J s1 R1 it D nD
  have hF : ¬ w1.F D := R1.newF nD
  have hO : ¬ Own w1 S1.r σ D := R1.newO nD
  obtain ⟨R1', sw⟩ := R1.wipe vs
  refine ⟨fun i m H2 => m + i = items.length ∧ ∃ w S accV acc, Rel K w ⟨wp vs S.r, S.m⟩ (wipe σ vs) H2 ∧ Stp w1 (wp vs S1.r) (wipe σ vs) H1 w (wp vs S.r) (wipe σ vs) H2 ∧ ItOk K J items w H2 ∧ H2 D = some (.lst accV) ∧ Reps K w H2 accV acc ∧ ¬ w.F D ∧ ¬ Own w (wp vs S.r) (wipe σ vs) D ∧
    ((lcL vs g t el (items.drop i) acc S).bnd fun ds S2 => Res.ok (DV.new (.lst ds)) ⟨mrg S1.r vs S2.r, S2.m⟩).to (okD K wa S0.r σ H Q) (exW K W wa S0.r σ H), ⟨items.length, Nat.add_zero _, ?_⟩, ?_⟩
  · obtain ⟨R2, s2⟩ := R1'.laid (o := .lst []) nD
    exact ⟨w1, S1, [], [], R2, s2, it.later (s2.ltr R1'), upd_same, .nil, hF, fun z => hO (wp_Own z), h1⟩
  · rintro i m H2 ⟨em, w, S, accV, acc, R, s, it2, eD, ra, nF, nO, hh⟩
    obtain ⟨go, stop⟩ := it2 w H2 Ltr.refl
    by_cases hi : i < items.length
    · refine .inr ?_
      have ei : items[i]? = some items[i] := List.getElem?_eq_getElem hi
      obtain ⟨g1, g2⟩ := go i _ ei
      rw [List.drop_eq_getElem_cons hi] at hh
      unfold lcL at hh
      cases eg : g items[i] ⟨wp vs S.r, S.m⟩ with
      | none => rw [eg] at hh; exact hh.elim
      | some S2 =>
        rw [eg] at hh
        dsimp only at hh
        refine ⟨g1, fun H' => ∃ w S accV acc, Rel K w ⟨wp vs S.r, S.m⟩ (wipe σ vs) H' ∧ Stp w1 (wp vs S1.r) (wipe σ vs) H1 w (wp vs S.r) (wipe σ vs) H' ∧ ItOk K J items w H' ∧ H' D = some (.lst accV) ∧ Reps K w H' accV acc ∧ ¬ w.F D ∧ ¬ Own w (wp vs S.r) (wipe σ vs) D ∧
          ((lcL vs g t el (items.drop (i + 1)) acc S).bnd fun ds S2 => Res.ok (DV.new (.lst ds)) ⟨mrg S1.r vs S2.r, S2.m⟩).to (okD K wa S0.r σ H Q) (exW K W wa S0.r σ H), fun H' n => ⟨m - 1, by omega, by omega, n⟩, fun x H3 y => ?_⟩
        obtain ⟨w3, s3, R3, rp⟩ := g2 x H3 y ⟨wp vs S.r, S.m⟩ (wipe σ vs) R
        -- an object that nobody knows stays so
        have keep : ∀ {w r σ H w' r' σ' H'}, Stp w r σ H w' r' σ' H' → ∀ {o}, H D = some o → ¬ w.F D → ¬ Own w r σ D → H' D = some o ∧ ¬ w'.F D ∧ ¬ Own w' r' σ' D := fun {w r σ H w' r' σ' H'} st {o} e nf no => by
          refine ⟨st.kp D o e no, fun f => ?_, fun f => ?_⟩
          · rcases st.fz D f with f | f | f
            · exact nf f
            · exact no f
            · rw [e] at f; cases f
          · rcases st.ow D f with f | f
            · exact no f
            · rw [e] at f; cases f
        obtain ⟨e3, f3, o3⟩ := keep s3 eD nF nO
        refine ok w3 _ _ H3 x _ S2 _ R3 rp eg fun σ4 q4 s4 R4 => ?_
        obtain ⟨e4, f4, o4⟩ := keep s4 e3 f3 o3
        have st04 := (s.trans s3).trans s4
        have q4' : wipe σ4 vs = wipe σ vs := by rw [q4, wipe_wipe]
        refine ⟨q4', w3, S2, R4, ?_⟩
        cases et : t S2 with
        | exc _ _ => rw [et] at hh; exact hh.elim
        | stk => rw [et] at hh; exact hh.elim
        | ok b S5 =>
          rw [et] at hh
          simp only [Res.nox_ok, Res.bnd_ok] at hh
          intro w5 H5 s5 R5
          obtain ⟨e5, f5, o5⟩ := keep s5 e4 f4 o4
          have it5 : ItOk K J items w5 H5 := it2.later ((s3.ltr R).trans ((s4.ltr R3).trans (s5.ltr R4)))
          have ra5 : Reps K w5 H5 accV acc := ra.later ((s3.ltr R).trans ((s4.ltr R3).trans (s5.ltr R4)))
          cases b with
          | false =>
            rw [if_neg (by decide)] at hh ⊢
            obtain ⟨R6, s6⟩ := R5.wipe vs
            rw [q4'] at R6 s6
            obtain ⟨e6, f6, o6⟩ := keep s6 e5 f5 o5
            exact ⟨w5, S5, accV, acc, R6, (st04.trans s5).trans s6, it5, e6, ra5, f6, o6, hh⟩
          | true =>
            rw [if_pos rfl] at hh ⊢
            refine ⟨w5, S5, R5, ?_⟩
            cases ee : el S5 with
            | exc _ _ => rw [ee] at hh; exact hh.elim
            | stk => rw [ee] at hh; exact hh.elim
            | ok dv S7 =>
              rw [ee] at hh
              simp only [Res.nox_ok, Res.bnd_ok] at hh
              intro w7 yv H7 s7 R7 xv
              obtain ⟨e7, f7, o7⟩ := keep s7 e5 f5 o5
              by_cases hl : acc.length < sizeLine
              · rw [if_pos hl] at hh
                obtain ⟨w8, R8, rp8, l8, st8⟩ := xv.frz R7
                have s8 := st8 _ _ _ s7
                obtain ⟨e8, f8, o8⟩ := keep s8 e5 f5 o5
                have l58 : Ltr w5 H5 w8 H7 := s8.ltr R5
                refine ⟨accV, e8, by rw [ra5.length]; exact hl, ?_⟩
                obtain ⟨R9, s9⟩ := R8.wipe vs
                rw [q4'] at R9 s9
                obtain ⟨e9, f9, o9⟩ := keep s9 e8 f8 o8
                have R10 := R9.poke (o := .lst (accV ++ [yv])) f9 o9
                have l10 : Ltr w8 H7 w8 (upd H7 D (.lst (accV ++ [yv]))) := ⟨fun _ h => h, List.prefix_refl _, fun a u f e => by rw [upd_ne (fun h => f8 (by rw [← h]; exact f))]; exact e⟩
                have st := ((st04.trans s5).trans s8).trans s9
                have nD1 : H1 D = none := nD
                refine ⟨w8, S7, accV ++ [yv], acc ++ [dv.fz], R10, ⟨fun a o e n => ?_, st.ow, st.fz, st.F, st.L, fun a n => ?_⟩, (it5.later l58).later l10, upd_same, ((ra5.later l58).later l10).append (.one (rp8.later l10)), f9, o9, hh⟩
                · rw [upd_ne (ne_of_none e nD1)]
                  exact st.kp a o e n
                · unfold L2.upd
                  split
                  · exact fun z => nomatch z
                  · exact st.dm a n
              · rw [if_neg hl] at hh
                exact hh.elim
    · have e : i = items.length := by omega
      subst e
      rw [List.drop_length] at hh
      refine .inl ⟨stop, ?_⟩
      obtain ⟨R9, s9⟩ := R1.unwipe s R
      have no : ¬ Own w (mrg S1.r vs S.r) σ D := fun z => by
        rcases z with z | ⟨j, o, e1, e2⟩
        · exact nO (.inl z)
        · by_cases hv : j ∈ vs
          · have hl : j < S.r.length := by
              have := (List.getElem?_eq_some_iff.mp e1).1
              simpa using this
            have hl1 : j < S1.r.length := by
              have h1 := R9.len
              have h2 := R1.len
              rw [show (⟨mrg S1.r vs S.r, S.m⟩ : Sta).r = mrg S1.r vs S.r from rfl, mrg_len] at h1
              omega
            rw [mrg_in hv hl hl1] at e1
            exact hO (.inr ⟨j, o, e1, e2⟩)
          · rw [mrg_out hv] at e1
            exact nO (.inr ⟨j, o, by rw [wp_out hv]; exact e1, by rw [wipe_out hv]; exact e2⟩)
      have hq : okD K wa S0.r σ H Q (.new (.lst acc)) ⟨mrg S1.r vs S.r, S.m⟩ := hh
      refine hq w (.ref D) H2 (s1.trans s9) R9 ⟨D, rfl, ⟨accV, eD, ra⟩, nF, no, ?_⟩
      exact Classical.byContradiction fun n => s1.dm D n nD
section
variable {X : Cx} {W : WX} {elt tg iter : Expr} {ifs : List Expr} {scope : Scope} {own : List (Str × Nat)} {pos spos py : Pos} {fi : M (List D)} {g0 : TG} {g : Tg} {t : M Bool} {el : M DV}
theorem dts_nil : DTs X W [] mYes := by
  refine ⟨fun pins s σ H Q I hw => ?_⟩
  obtain ⟨w, S, R, h⟩ := hw
  exact pts_nil.run pins s σ H Q I ((show okT X.K w S.r σ H Q true S from h) w H Stp.refl R)
theorem dts_one {c : Expr} {f : M Bool} (h : DT X W c f) : DTs X W [c] f := pts_one h
theorem de_lc {vs : List Nat} (hvs : own.map (·.2) = vs) (hc : X.calm = true) (hN : X.N.Nodup) (hi : DI X W tg iter fi) (ok : BlkOk X.N X.env.scope scope own) (tok : TgOk X.K vs g0 g)
    (hg : ∀ (s : Shared) (H : Hp) (C : Addr) (cl : List (Str × Addr)) (fp : List Addr), PG (X.blk s H scope (compEnvC scope cl C X.env) fp) tg g0)
    (ht : ∀ (s : Shared) (H : Hp) (C : Addr) (cl : List (Str × Addr)) (fp : List Addr), DTs (X.blk s H scope (compEnvC scope cl C X.env) fp) w0 ifs t)
    (he : ∀ (s : Shared) (H : Hp) (C : Addr) (cl : List (Str × Addr)) (fp : List Addr), DE (X.blk s H scope (compEnvC scope cl C X.env) fp) w0 elt el) (hs : ∀ x, foldedSetIterable iter X.env x = pure x := by intro _; rfl) :
    DE X W (.ListComp elt [⟨tg, iter, ifs, 0⟩] scope pos) (mLc fi vs g t el) := by
  subst hvs
  exact pe_imp (pe_lc hc hN hi ok hg ht he hs) fun σ H Q h => lc_red tok h
/-- name = [..] on one line, the name a local -/
theorem ds_asgLc {i : Nat} {y : Str} {vs : List Nat} (hvs : own.map (·.2) = vs) (hc : X.calm = true) (hN : X.N.Nodup) (hy : X.N[i]? = some y) (hyl : X.env.scope.names.lookup y = some .local)
    (hsw : swapsWith (.ListComp elt [⟨tg, iter, ifs, 0⟩] scope pos) (some (.Name y py)) spos.line X.env = pure true) (hi : DI X W tg iter fi) (ok : BlkOk X.N X.env.scope scope own) (tok : TgOk X.K vs g0 g)
    (hg : ∀ (s : Shared) (H : Hp) (C : Addr) (cl : List (Str × Addr)) (fp : List Addr), PG (X.blk s H scope (compEnvC scope cl C X.env) fp) tg g0)
    (ht : ∀ (s : Shared) (H : Hp) (C : Addr) (cl : List (Str × Addr)) (fp : List Addr), DTs (X.blk s H scope (compEnvC scope cl C X.env) fp) w0 ifs t)
    (he : ∀ (s : Shared) (H : Hp) (C : Addr) (cl : List (Str × Addr)) (fp : List Addr), DE (X.blk s H scope (compEnvC scope cl C X.env) fp) w0 elt el) (hs : ∀ x, foldedSetIterable iter X.env x = pure x := by intro _; rfl) :
    DS X W (.Assign [.Name y py] (.ListComp elt [⟨tg, iter, ifs, 0⟩] scope pos) spos) (sAsg i (mLc fi vs g t el)) := by
  subst hvs
  refine ps_imp (ps_setLc hc hN hy hyl hsw hi ok hg ht he hs) fun D σ H hw => lc_red tok ?_
  obtain ⟨w, S, R, h⟩ := hw
  refine ⟨w, S, R, Res.to_imp (Res.to_bnd h) (fun dv S1 h1 => ?_) fun _ _ z => z⟩
  intro w1 v H1 s1 R1 x1
  obtain ⟨R2, s2⟩ := R1.putV i x1
  exact (show okS X.K w S.r σ H D .nx (S1.set i dv.sl) from h1) w1 _ H1 (s2 _ _ _ s1) R2
end
end DL
namespace DL
open PySem PySem.Spec PyProof.Rows L2
/-! ### a name that is only looked at -/
def peek (S : Sta) (i : Nat) : Option D := match S.r[i]? with
  | some (.val d) => some d
  | some (.own o) => some o.fz
  | _ => none
theorem Rel.peek {K : PySem.W.Frag} {w : Wd} {S : Sta} {σ : Sg} {H : Hp} {i : Nat} {d : D} (R : Rel K w S σ H) (h : peek S i = some d) : ∃ v, σ[i]? = some (some v) ∧ Rq K w H v d := by
  unfold DL.peek at h
  split at h
  · rename_i d' e
    injection h with h
    subst h
    obtain ⟨v, h1, h2⟩ := R.sl i _ e
    exact ⟨v, h1, .inl h2⟩
  · rename_i o e
    injection h with h
    subst h
    obtain ⟨a, h1, h2, _⟩ := R.ow i _ e
    exact ⟨_, h1, .inr ⟨a, o, rfl, h2, rfl⟩⟩
  · cases h
def mOp2L (g : List Ob → D → D → Option DV) (i : Nat) (b : M DV) : M DV := fun S => match peek S i with
  | none => .stk
  | some _ => (b S).bnd fun y S1 => match peek S1 i with
    | none => .stk
    | some x => oRes (g S1.m x y.fz) S1
def mOp2R (g : List Ob → D → D → Option DV) (a : M DV) (i : Nat) : M DV := fun S => (a S).bnd fun x S1 => match peek S1 i with
  | none => .stk
  | some y => oRes (g S1.m x.fz y) S1
def mOp1L (g : List Ob → D → Option DV) (i : Nat) : M DV := fun S => match peek S i with
  | none => .stk
  | some x => oRes (g S.m x) S
section
variable {X : Cx} {W : WX} {e a b : Expr} {es : List Expr} {fa fb : M DV} {f : M (List D)} {rr : R2} {g : List Ob → D → D → Option DV} {i : Nat} {σ : Sg} {H : Hp} {Q : VK}
theorem red_op2 (o : O2 X rr g) (h : tD X.K W (mOp2 g fa fb) σ H Q) : tOp rr (tD X.K W fa) (tD X.K W fb) σ H Q := by
  obtain ⟨w, S, R, h⟩ := h
  refine ⟨w, S, R, Res.to_imp (Res.to_bnd h) (fun x S1 h1 => ?_) fun _ _ z => z⟩
  intro w1 v H1 s1 R1 x1
  refine ⟨w1, S1, R1, Res.to_imp (Res.to_bnd h1) (fun y S2 h2 => ?_) fun _ _ z => z.later s1⟩
  intro w2 u H2 s2 R2 x2
  obtain ⟨dv, e1, h3⟩ := oRes_to h2
  refine o w2 S2 σ H2 v u x.fz y.fz dv Q R2 (x1.later R1 s2).rq x2.rq e1 ?_
  intro w3 z H3 s3 R3 x3
  exact h3 w3 z H3 ((s1.trans s2).trans s3) R3 (x3.start (s1.trans s2))
theorem red_op2L (o : O2 X rr g) (h : tD X.K W (mOp2L g i fb) σ H Q) : tOp rr (tVar i) (tD X.K W fb) σ H Q := by
  obtain ⟨w, S, R, h⟩ := h
  unfold mOp2L at h
  cases e0 : peek S i with
  | none => rw [e0] at h; exact h.elim
  | some d0 =>
    rw [e0] at h
    obtain ⟨v, ev, _⟩ := R.peek e0
    refine ⟨v, ev, w, S, R, Res.to_imp (Res.to_bnd h) (fun y S2 h2 => ?_) fun _ _ z => z⟩
    intro w2 u H2 s2 R2 x2
    cases e1 : peek S2 i with
    | none => rw [e1] at h2; exact h2.elim
    | some d =>
      rw [e1] at h2
      obtain ⟨v', ev', q⟩ := R2.peek e1
      rw [ev] at ev'
      cases ev'
      obtain ⟨dv, e2, h3⟩ := oRes_to h2
      refine o w2 S2 σ H2 v u d y.fz dv Q R2 q x2.rq e2 ?_
      intro w3 z H3 s3 R3 x3
      exact h3 w3 z H3 (s2.trans s3) R3 (x3.start s2)
theorem red_op2R (o : O2 X rr g) (h : tD X.K W (mOp2R g fa i) σ H Q) : tOp rr (tD X.K W fa) (tVar i) σ H Q := by
  obtain ⟨w, S, R, h⟩ := h
  refine ⟨w, S, R, Res.to_imp (Res.to_bnd h) (fun x S1 h1 => ?_) fun _ _ z => z⟩
  intro w1 v H1 s1 R1 x1
  cases e1 : peek S1 i with
  | none => rw [e1] at h1; exact h1.elim
  | some d =>
    rw [e1] at h1
    obtain ⟨u, ev, q⟩ := R1.peek e1
    obtain ⟨dv, e2, h3⟩ := oRes_to h1
    refine ⟨u, ev, o w1 S1 σ H1 v u x.fz d dv Q R1 x1.rq q e2 ?_⟩
    intro w3 z H3 s3 R3 x3
    exact h3 w3 z H3 (s1.trans s3) R3 (x3.start s1)
theorem de_op2L (hr : ∀ tb : TE, PE X b tb → PE X e (tOp rr (tVar i) tb)) (o : O2 X rr g) (hb : DE X W b fb) : DE X W e (mOp2L g i fb) := pe_imp (hr _ hb) fun _ _ _ h => red_op2L o h
theorem de_op2R (hr : ∀ ta : TE, PE X a ta → PE X e (tOp rr ta (tVar i))) (o : O2 X rr g) (ha : DE X W a fa) : DE X W e (mOp2R g fa i) := pe_imp (hr _ ha) fun _ _ _ h => red_op2R o h
theorem red_op1L {rr : V → Hp → VK → Prop} {g : List Ob → D → Option DV} (o : O1 X rr g) (h : tD X.K W (mOp1L g i) σ H Q) : tUn rr (tVar i) σ H Q := by
  obtain ⟨w, S, R, h⟩ := h
  unfold mOp1L at h
  cases e0 : peek S i with
  | none => rw [e0] at h; exact h.elim
  | some d0 =>
    rw [e0] at h
    obtain ⟨v, ev, q⟩ := R.peek e0
    obtain ⟨dv, e2, h3⟩ := oRes_to h
    exact ⟨v, ev, o w S σ H v d0 dv Q R q e2 h3⟩
/-- the same as a test -/
theorem dt_op2 (hr : PT X e (tTest (tOp rr (tD X.K W fa) (tD X.K W fb)))) (o : O2 X rr g) : DT X W e (mB (mOp2 g fa fb)) := dt_of (pt_imp hr fun _ _ _ h => red_op2 o h)
theorem dt_op2L (hr : PT X e (tTest (tOp rr (tVar i) (tD X.K W fb)))) (o : O2 X rr g) : DT X W e (mB (mOp2L g i fb)) := dt_of (pt_imp hr fun _ _ _ h => red_op2L o h)
theorem dt_op2R (hr : PT X e (tTest (tOp rr (tD X.K W fa) (tVar i)))) (o : O2 X rr g) : DT X W e (mB (mOp2R g fa i)) := dt_of (pt_imp hr fun _ _ _ h => red_op2R o h)
/-- a built-in called with one name -/
def mCB1L (g : List Ob → List D → Option DV) (i : Nat) : M DV := mOp1L (fun m d => g m [d]) i
/-- .. for what only looks -/
def OCq (X : Cx) (rr : List V → Hp → VK → Prop) (g : List Ob → D → Option DV) : Prop := ∀ (w : Wd) (S : Sta) (σ : Sg) (H : Hp) (x : V) (a : D) (dv : DV) (Q : VK), Rel X.K w S σ H → Rq X.K w H x a → g S.m a = some dv →
  okD X.K w S.r σ H Q dv S → rr [x] H Q
theorem de_cb1L {rr : List V → Hp → VK → Prop} {g : List Ob → D → Option DV} (hr : PA X [a] (tCons (tVar i) tNil) → PE X e (tCB rr (tCons (tVar i) tNil))) (o : OCq X rr g) (ha : PA X [a] (tCons (tVar i) tNil)) : DE X W e (mOp1L g i) := by
  refine pe_imp (hr ha) fun σ H Q h => ?_
  exact red_op1L (rr := fun x H Q => rr [x] H Q) (fun w S σ H x a dv Q R q e h => o w S σ H x a dv Q R q e h) h
theorem de_cb1 {rr : List V → Hp → VK → Prop} {g : List Ob → D → Option DV} (hr : ∀ t : TA, PA X [a] t → PE X e (tCB rr t)) (o : OCq X rr g) (ha : PA X [a] (tCons (tD X.K W fa) tNil)) : DE X W e (mOp1 g fa) := by
  refine pe_imp (hr _ ha) fun σ H Q h => ?_
  obtain ⟨w, S, R, h⟩ := h
  refine ⟨w, S, R, Res.to_imp (Res.to_bnd h) (fun x S1 h1 => ?_) fun _ _ z => z⟩
  intro w1 v H1 s1 R1 x1
  obtain ⟨dv, e1, h3⟩ := oRes_to h1
  refine o w1 S1 σ H1 v x.fz dv Q R1 x1.rq e1 ?_
  intro w3 z H3 s3 R3 x3
  exact h3 w3 z H3 (s1.trans s3) R3 (x3.start s1)
end
/-! ### operations: arithmetic -/
def fI2 (C : Int → Int → Bool) (f : Int → Int → Int) : List Ob → D → D → Option DV := fun _ x y => match x, y with
  | .int i, .int j => if C i j = true then some (.val (.int (f i j))) else none
  | _, _ => none
theorem O2.ints {X : Cx} {C : Int → Int → Bool} {CP : Int → Int → Prop} {f : Int → Int → Int} (h : ∀ i j, C i j = true → CP i j) : O2 X (rI CP fun i j => .int (f i j)) (fI2 C f) := fun w S σ H x y a b dv Q R qa qb e h3 => by
  unfold fI2 at e
  split at e
  · split at e
    · rename_i i j hc
      cases e
      have e1 := qa.int
      have e2 := qb.int
      subst e1 e2
      exact ⟨i, j, rfl, rfl, h i j hc, h3 w _ H Stp.refl R (Rep.int _)⟩
    · cases e
  · cases e
def MulP (i j : Int) : Prop := ((-(2 ^ 64) < i ∧ i < 2 ^ 64) ∨ (-(2 ^ 64) < j ∧ j < 2 ^ 64)) ∨ i.natAbs.log2 + j.natAbs.log2 < 1000000
def DivP (j : Int) : Prop := j ≠ 0 ∧ j.natAbs.log2 < 9000
open Classical in
noncomputable def mulOk (i j : Int) : Bool := decide (MulP i j)
open Classical in
noncomputable def divOk (j : Int) : Bool := decide (DivP j)
theorem mulOk_of {i j : Int} (h : MulP i j) : mulOk i j = true := by unfold mulOk; exact @decide_eq_true _ (Classical.propDecidable _) h
theorem mulOk_p {i j : Int} (h : mulOk i j = true) : MulP i j := by unfold mulOk at h; exact @of_decide_eq_true _ (Classical.propDecidable _) h
theorem divOk_of' {j : Int} (h : DivP j) : divOk j = true := by unfold divOk; exact @decide_eq_true _ (Classical.propDecidable _) h
theorem divOk_p {j : Int} (h : divOk j = true) : DivP j := by unfold divOk at h; exact @of_decide_eq_true _ (Classical.propDecidable _) h
noncomputable def fOpMul : List Ob → D → D → Option DV := fun _ x y => match x, y with
  | .int i, .int j => if mulOk i j = true then some (.val (.int (i * j))) else none
  | .lst l, .int k => if (-(2 ^ 63) ≤ k ∧ k < 2 ^ 63) ∧ l.length * k.toNat ≤ sizeLine then some (.new (.lst (List.replicate k.toNat l).flatten)) else none
  | .tup l, .int k => if l ≠ [] ∧ 2 ≤ k ∧ k ≤ 1000 ∧ l.length ≤ 1000 then some (.val (.tup (List.replicate k.toNat l).flatten)) else none
  | _, _ => none
noncomputable def fOpDiv : List Ob → D → D → Option DV := fI2 (fun _ j => divOk j) fun i j => i.fdiv j
def fOpMod : List Ob → D → D → Option DV := fI2 (fun i j => decide (j ≠ 0)) fun i j => i.fmod j
def fOpSub : List Ob → D → D → Option DV := fI2 (fun _ _ => true) fun i j => i - j
def fOpPow : List Ob → D → D → Option DV := fI2 (fun i j => decide (0 ≤ j ∧ j ≤ 1000000 ∧ i.natAbs < 2 ^ 64)) fun i j => i ^ j.toNat
def fOpAdd : List Ob → D → D → Option DV := fun _ x y => match x, y with
  | .int i, .int j => some (.val (.int (i + j)))
  | .str i, .str j => if i.length + j.length ≤ sizeLine then some (.val (.str (i ++ j))) else none
  | .lst i, .lst j => if i.length + j.length ≤ sizeLine then some (.new (.lst (i ++ j))) else none
  | .tup i, .tup j => if i.length + j.length ≤ sizeLine then some (.val (.tup (i ++ j))) else none
  | _, _ => none
theorem okD.here {K : PySem.W.Frag} {w : Wd} {S : Sta} {σ : Sg} {H : Hp} {Q : VK} {d : D} {v : V} (h : okD K w S.r σ H Q (.val d) S) (R : Rel K w S σ H) (r : Rep K w H v d) : Q v H := h w v H Stp.refl R r
theorem Rq.tupF {K : PySem.W.Frag} {w : Wd} {H : Hp} {v : V} {ds : List D} (x : Rq K w H v (.tup ds)) : Rep K w H v (.tup ds) := by
  rcases x with x | ⟨a, o, e, x, h⟩
  · exact x
  · cases o <;> cases h
section
variable {X : Cx}
def rAddD (K : PySem.W.Frag) : R2 := fun x y H Q => rI0 (fun i j => .int (i + j)) x y H Q ∨ (∃ i j, x = .str i ∧ y = .str j ∧ i.length + j.length ≤ sizeLine ∧ Q (.str (i ++ j)) H) ∨ rCat x y H Q ∨ rCatA K x y H Q
theorem op_addD : OpR X (binaryOp .Add) (rAddD X.K) := OpR.or op_add (OpR.or op_add_str (OpR.or op_cat op_catA))
theorem o_add : O2 X (rAddD X.K) fOpAdd := fun w S σ H x y a b dv Q R qa qb e h3 => by
  unfold fOpAdd at e
  split at e
  · cases e
    exact .inl ⟨_, _, qa.int, qb.int, h3.here R (.int _)⟩
  · split at e
    · cases e
      exact .inr (.inl ⟨_, _, qa.str, qb.str, by assumption, h3.here R (.str _)⟩)
    · cases e
  · split at e
    · cases e
      obtain ⟨p, xs, e1, h1, r1⟩ := qa.lst
      obtain ⟨q, ys, e2, h2, r2⟩ := qb.lst
      exact .inr (.inr (.inl ⟨p, q, xs, ys, e1, e2, h1, h2, by rw [r1.length, r2.length]; assumption, newLst R (r1.append r2) h3⟩))
    · cases e
  · split at e
    · cases e
      rename_i i j hl
      obtain ⟨p, xs, e1, h1, r1⟩ := qa.tup
      obtain ⟨q, ys, e2, h2, r2⟩ := qb.tup
      refine .inr (.inr (.inr ⟨p, q, xs, ys, e1, e2, h1, h2, by rw [r1.length, r2.length]; assumption, fun z => ?_, fun _ z => ?_, fun _ _ => newTup R (r1.append r2) h3⟩))
      · subst z
        cases r1
        rw [List.nil_append] at h3
        subst e2
        exact h3.here R qb.tupF
      · subst z
        cases r2
        rw [List.append_nil] at h3
        subst e1
        exact h3.here R qa.tupF
    · cases e
  · cases e
theorem o_sub : O2 X (rI0 fun i j => .int (i - j)) fOpSub := fun w S σ H x y a b dv Q R qa qb e h3 => by
  obtain ⟨i, j, h1, h2, _, h⟩ := (O2.ints (X := X) (CP := fun _ _ => True) (f := fun i j => i - j) fun _ _ _ => True.intro) w S σ H x y a b dv Q R qa qb e h3
  exact ⟨i, j, h1, h2, h⟩
theorem Reps.rep {K : PySem.W.Frag} {w : Wd} {H : Hp} {vs : List V} {ds : List D} (r : Reps K w H vs ds) : ∀ n : Nat, Reps K w H (List.replicate n vs).flatten (List.replicate n ds).flatten
  | 0 => .nil
  | n + 1 => by
    rw [List.replicate_succ, List.replicate_succ, List.flatten_cons, List.flatten_cons]
    exact r.append (Reps.rep r n)
def rMulD (K : PySem.W.Frag) : R2 := fun x y H Q => rI (fun i j => CMul i j ∨ CMulW i j) (fun i j => .int (i * j)) x y H Q ∨ rRep x y H Q ∨ rRepT K x y H Q
theorem op_mulD : OpR X (binaryOp .Mult) (rMulD X.K) := OpR.or (opI fun _ _ _ _ _ _ _ hc q => mul_int q (hc.elim (fun z => z.ok) fun z => z.ok)) (OpR.or op_rep op_repT)
theorem o_mul : O2 X (rMulD X.K) fOpMul := fun w S σ H x y a b dv Q R qa qb e h3 => by
  unfold fOpMul at e
  split at e
  · split at e
    · rename_i i j hc
      cases e
      exact .inl ⟨i, j, qa.int, qb.int, (mulOk_p hc), h3.here R (.int _)⟩
    · cases e
  · split at e
    · rename_i l k hc
      cases e
      obtain ⟨p, xs, e1, h1, r1⟩ := qa.lst
      exact .inr (.inl ⟨p, k, xs, e1, qb.int, h1, hc.1.1, hc.1.2, by rw [r1.length]; exact hc.2, newLst R (r1.rep _) h3⟩)
    · cases e
  · split at e
    · rename_i l k hc
      cases e
      obtain ⟨p, xs, e1, h1, r1⟩ := qa.tup
      exact .inr (.inr ⟨p, k, xs, e1, qb.int, h1, (fun z => by subst z; cases r1; exact hc.1 rfl), hc.2.1, hc.2.2.1, by rw [r1.length]; exact hc.2.2.2, newTup R (r1.rep _) h3⟩)
    · cases e
  · cases e
def CDivV (_ j : Int) : Prop := j ≠ 0 ∧ j.natAbs.log2 < 9000
theorem op_fdivD : OpR X (binaryOp .FloorDiv) (rI CDivV fun i j => .int (i.fdiv j)) := opI fun _ _ _ _ _ _ _ hc q => floordiv_int hc.1 q (.inl (PyProof.noPylong_of_log2 hc.2))
theorem o_div : O2 X (rI CDivV fun i j => .int (i.fdiv j)) fOpDiv := O2.ints fun i j h => (divOk_p h)
theorem o_mod : O2 X (rI (fun _ j => j ≠ 0) fun i j => .int (i.fmod j)) fOpMod := O2.ints fun i j h => of_decide_eq_true h
theorem o_pow : O2 X (rI CPow fun i j => .int (i ^ j.toNat)) fOpPow := O2.ints fun i j h => (show 0 ≤ j ∧ j ≤ 1000000 ∧ i.natAbs < 2 ^ 64 from of_decide_eq_true h)
def fNeg : List Ob → D → Option DV := fun _ x => match x with
  | .int i => some (.val (.int (-i)))
  | _ => none
theorem o_neg : O1 X (rU fun i => .int (-i)) fNeg := fun w S σ H x a dv Q R qa e h3 => by
  unfold fNeg at e
  split at e
  · cases e
    exact ⟨_, qa.int, h3.here R (.int _)⟩
  · cases e
/-! ### comparisons of ints, texts -/
def fCmp (f : Int → Int → Bool) (g : List Nat → List Nat → Bool) : List Ob → D → D → Option DV := fun _ x y => match x, y with
  | .int i, .int j => some (.val (.bl (f i j)))
  | .str i, .str j => some (.val (.bl (g i.cps.toList j.cps.toList)))
  | _, _ => none
def fLt : List Ob → D → D → Option DV := fCmp (fun i j => decide (i < j)) fun i j => decide (i < j)
def fLe : List Ob → D → D → Option DV := fCmp (fun i j => decide (i ≤ j)) fun i j => !decide (j < i)
def fGt : List Ob → D → D → Option DV := fCmp (fun i j => decide (j < i)) fun i j => decide (j < i)
def fGe : List Ob → D → D → Option DV := fCmp (fun i j => decide (j ≤ i)) fun i j => !decide (i < j)
def rCmpD (f : Int → Int → Bool) (g : List Nat → List Nat → Bool) : R2 := fun x y H Q => rI0 (fun i j => .bl (f i j)) x y H Q ∨ ∃ i j, x = .str i ∧ y = .str j ∧ Q (.bl (g i.cps.toList j.cps.toList)) H
theorem o_cmp {f : Int → Int → Bool} {g : List Nat → List Nat → Bool} : O2 X (rCmpD f g) (fCmp f g) := fun w S σ H x y a b dv Q R qa qb e h3 => by
  unfold fCmp at e
  split at e
  · cases e
    exact .inl ⟨_, _, qa.int, qb.int, h3.here R (.bl _)⟩
  · cases e
    exact .inr ⟨_, _, qa.str, qb.str, h3.here R (.bl _)⟩
  · cases e
theorem op_ltD : OpR X (compareOp .Lt) (rCmpD (fun i j => decide (i < j)) fun i j => decide (i < j)) := OpR.or op_lt op_lt_str
theorem op_leD : OpR X (compareOp .LtE) (rCmpD (fun i j => decide (i ≤ j)) fun i j => !decide (j < i)) := OpR.or op_le op_le_str
theorem op_gtD : OpR X (compareOp .Gt) (rCmpD (fun i j => decide (j < i)) fun i j => decide (j < i)) := OpR.or op_gt op_gt_str
theorem op_geD : OpR X (compareOp .GtE) (rCmpD (fun i j => decide (j ≤ i)) fun i j => !decide (i < j)) := OpR.or op_ge op_ge_str
theorem o_lt : O2 X (rCmpD (fun i j => decide (i < j)) fun i j => decide (i < j)) fLt := o_cmp
theorem o_le : O2 X (rCmpD (fun i j => decide (i ≤ j)) fun i j => !decide (j < i)) fLe := o_cmp
theorem o_gt : O2 X (rCmpD (fun i j => decide (j < i)) fun i j => decide (j < i)) fGt := o_cmp
theorem o_ge : O2 X (rCmpD (fun i j => decide (j ≤ i)) fun i j => !decide (i < j)) fGe := o_cmp
/-! ### is None -/
def isNonD : D → Bool
  | .non => true
  | _ => false
def fIsN : List Ob → D → D → Option DV := fun _ x y => match y with
  | .non => some (.val (.bl (isNonD x)))
  | _ => none
def fNotN : List Ob → D → D → Option DV := fun _ x y => match y with
  | .non => some (.val (.bl (!isNonD x)))
  | _ => none
theorem Rq.nonD {K : PySem.W.Frag} {w : Wd} {H : Hp} {v : V} {d : D} (x : Rq K w H v d) : decide (v = .non) = isNonD d := by
  rcases x with x | ⟨a, o, e, x, h⟩
  · cases x <;> rfl
  · subst e; subst h; cases o <;> rfl
theorem o_isN : O2 X (fun x y H Q => y = .non ∧ Q (.bl (decide (x = .non))) H) fIsN := fun w S σ H x y a b dv Q R qa qb e h3 => by
  unfold fIsN at e
  split at e
  · cases e
    exact ⟨qb.non, by rw [qa.nonD]; exact h3.here R (.bl _)⟩
  · cases e
theorem o_notN : O2 X (fun x y H Q => y = .non ∧ Q (.bl (!decide (x = .non))) H) fNotN := fun w S σ H x y a b dv Q R qa qb e h3 => by
  unfold fNotN at e
  split at e
  · cases e
    exact ⟨qb.non, by rw [qa.nonD]; exact h3.here R (.bl _)⟩
  · cases e
/-- is of bools -/
def fIsB : List Ob → D → D → Option DV := fun _ x y => match x, y with
  | .bl a, .bl b => some (.val (.bl (decide (a = b))))
  | _, _ => none
def fNotB : List Ob → D → D → Option DV := fun _ x y => match x, y with
  | .bl a, .bl b => some (.val (.bl (!decide (a = b))))
  | _, _ => none
theorem o_isB : O2 X rIsB fIsB := fun w S σ H x y a b dv Q R qa qb e h3 => by
  unfold fIsB at e
  split at e
  · cases e
    exact ⟨_, _, qa.bl, qb.bl, h3.here R (.bl _)⟩
  · cases e
theorem o_notB : O2 X rNotB fNotB := fun w S σ H x y a b dv Q R qa qb e h3 => by
  unfold fNotB at e
  split at e
  · cases e
    exact ⟨_, _, qa.bl, qb.bl, h3.here R (.bl _)⟩
  · cases e
end
/-! ### data as the library has it -/
def kPy : Key → PyData
  | .inl i => .int i
  | .inr x => .str x
mutual
def D.py : D → PyData
  | .non => .none
  | .bl b => .bool b
  | .int i => .int i
  | .str x => .str x
  | .tup l => .tuple (D.pyL l)
  | .lst l => .list (D.pyL l)
  | .dic l => .dict (D.pyK l)
  | .frl _ => .none
  | .loc _ => .none
  | .gl _ => .none
  | .ty _ => .none
def D.pyL : List D → List PyData
  | [] => []
  | d :: ds => d.py :: D.pyL ds
def D.pyK : List (Key × D) → List (PyData × PyData)
  | [] => []
  | (k, d) :: ds => (kPy k, d.py) :: D.pyK ds
end
mutual
/-- data without dicts, objects -/
def D.plain : D → Bool
  | .non => true
  | .bl _ => true
  | .int _ => true
  | .str _ => true
  | .tup l => D.plainL l
  | .lst l => D.plainL l
  | .dic _ => false
  | .frl _ => false
  | .loc _ => false
  | .gl _ => false
  | .ty _ => false
def D.plainL : List D → Bool
  | [] => true
  | d :: ds => d.plain && D.plainL ds
end
section
variable {K : PySem.W.Frag} {w : Wd} {H : Hp}
mutual
theorem Rep.dp : ∀ {v : V} {d : D}, Rep K w H v d → d.plain = true → Dp K H v d.py
  | _, _, .non, _ => by unfold D.py; exact .non
  | _, _, .bl b, _ => by unfold D.py; exact .bl b
  | _, _, .int b, _ => by unfold D.py; exact .int b
  | _, _, .str b, _ => by unfold D.py; exact .str b
  | _, _, .tup h r, p => by unfold D.py; unfold D.plain at p; exact .tup h.sq (Reps.dp r p)
  | _, _, .lst h r, p => by unfold D.py; unfold D.plain at p; exact .lst (SqL.of h.2) (Reps.dp r p)
  | _, _, .dic h r, p => by unfold D.plain at p; cases p
  | _, _, .frl _ _, p => by unfold D.plain at p; cases p
  | _, _, .loc h, p => by unfold D.plain at p; cases p
  | _, _, .gl h, p => by unfold D.plain at p; cases p
  | _, _, .ty h, p => by unfold D.plain at p; cases p
theorem Reps.dp : ∀ {vs : List V} {ds : List D}, Reps K w H vs ds → D.plainL ds = true → DpAll K H vs (D.pyL ds)
  | _, _, .nil, _ => by unfold D.pyL; exact .nil
  | _, _, .cons r t, p => by
    unfold D.pyL
    unfold D.plainL at p
    have p' := Bool.and_eq_true_iff.mp p
    exact .cons (Rep.dp r p'.1) (Reps.dp t p'.2)
end
theorem Rq.dp {v : V} {d : D} (x : Rq K w H v d) (p : d.plain = true) : Dp K H v d.py := by
  rcases x with x | ⟨a, o, e, x, h⟩
  · exact x.dp p
  · subst e
    subst h
    cases o with
    | lst ds =>
      obtain ⟨xs, e, r⟩ := x
      unfold Ob.fz D.py
      unfold Ob.fz D.plain at p
      exact .lst (SqL.of e) (r.dp p)
    | dic ds => unfold Ob.fz D.plain at p; cases p
end
def okEq (a b : D) : Bool := a.plain && b.plain && SeqAt.shaped a.py && SeqAt.shaped b.py
def deq (a b : D) : Bool := PyData.eqv a.py b.py
def fEq : List Ob → D → D → Option DV := fun _ a b => if okEq a b = true then some (.val (.bl (deq a b))) else none
def fNe : List Ob → D → D → Option DV := fun _ a b => if okEq a b = true then some (.val (.bl (!deq a b))) else none
theorem okEq_of {a b : D} (h : okEq a b = true) : (a.plain = true ∧ b.plain = true) ∧ SeqAt.shaped a.py = true ∧ SeqAt.shaped b.py = true := by
  unfold okEq at h
  simp only [Bool.and_eq_true] at h
  exact ⟨h.1.1, h.1.2, h.2⟩
section
variable {X : Cx}
theorem o_eq : O2 X (rEqD X.K) fEq := fun w S σ H x y a b dv Q R qa qb e h3 => by
  unfold fEq at e
  split at e
  · cases e
    rename_i hk
    obtain ⟨⟨p1, p2⟩, s1, s2⟩ := okEq_of hk
    exact ⟨_, _, qa.dp p1, qb.dp p2, s1, s2, h3.here R (.bl _)⟩
  · cases e
theorem o_ne : O2 X (rNeD X.K) fNe := fun w S σ H x y a b dv Q R qa qb e h3 => by
  unfold fNe at e
  split at e
  · cases e
    rename_i hk
    obtain ⟨⟨p1, p2⟩, s1, s2⟩ := okEq_of hk
    exact ⟨_, _, qa.dp p1, qb.dp p2, s1, s2, h3.here R (.bl _)⟩
  · cases e
/-! ### subscripts, slices -/
def fIx : List Ob → D → D → Option DV := fun m x y => match x, y with
  | .tup l, .int i => (atI l i).map .val
  | .lst l, .int i => (atI l i).map .val
  | .str z, .int i => if z.length ≤ sizeLine then (atI z.cps.toList i).map fun c => .val (.str ⟨#[c]⟩) else none
  | .loc n, .int i => match m[n]? with
    | some (.lst l) => (atI l i).map .val
    | _ => none
  | _, _ => none
theorem Reps.at_ {K : PySem.W.Frag} {w : Wd} {H : Hp} {vs : List V} {ds : List D} {i : Int} {d : D} (r : Reps K w H vs ds) (h : atI ds i = some d) : ∃ v, atI vs i = some v ∧ Rep K w H v d := by
  unfold atI at h ⊢
  rw [r.length]
  obtain ⟨j, e1, e2⟩ := Option.bind_eq_some_iff.mp h
  obtain ⟨v, e3, rp⟩ := r.get e2
  exact ⟨v, Option.bind_eq_some_iff.mpr ⟨j, e1, e3⟩, rp⟩
theorem o_ix : O2 X (rIx X.K) fIx := fun w S σ H x y a b dv Q R qa qb e h3 => by
  unfold fIx at e
  split at e
  · obtain ⟨d, e1, e2⟩ := Option.map_eq_some_iff.mp e
    cases e2
    obtain ⟨p, xs, ex, h1, r1⟩ := qa.tup
    obtain ⟨v, hv, rp⟩ := r1.at_ e1
    exact .inr (.inl ⟨p, xs, _, v, ex, qb.int, h1, hv, h3.here R rp⟩)
  · obtain ⟨d, e1, e2⟩ := Option.map_eq_some_iff.mp e
    cases e2
    obtain ⟨p, xs, ex, h1, r1⟩ := qa.lst
    obtain ⟨v, hv, rp⟩ := r1.at_ e1
    exact .inl ⟨p, xs, _, v, ex, qb.int, SqL.of h1, hv, h3.here R rp⟩
  · split at e
    · obtain ⟨d, e1, e2⟩ := Option.map_eq_some_iff.mp e
      cases e2
      exact .inr (.inr ⟨_, _, _, qa.str, qb.int, by assumption, e1, h3.here R (.str _)⟩)
    · cases e
  · split at e
    · obtain ⟨d, e1, e2⟩ := Option.map_eq_some_iff.mp e
      cases e2
      rename_i l hm
      obtain ⟨p, ex, hp⟩ := qa.loc
      obtain ⟨p', hp', ob, _⟩ := R.mu _ _ hm
      rw [hp] at hp'
      cases hp'
      obtain ⟨xs, hx, r1⟩ := ob
      obtain ⟨v, hv, rp⟩ := r1.at_ e1
      exact .inl ⟨p, xs, _, v, ex, qb.int, SqL.of hx, hv, h3.here R rp⟩
    · cases e
  · cases e
/-- the items of xs[lo:hi] -/
def cutD (xs : List D) (lo hi : Option Int) : List D := (xs.drop (HT.sIx xs.length 0 lo)).take (HT.sIx xs.length xs.length hi - HT.sIx xs.length 0 lo)
theorem Reps.cut {K : PySem.W.Frag} {w : Wd} {H : Hp} {vs : List V} {ds : List D} (r : Reps K w H vs ds) (lo hi : Option Int) : Reps K w H (cutV vs lo hi) (cutD ds lo hi) := by
  unfold cutV cutD
  rw [r.length]
  exact (r.drop _).take _
def fSl (x : D) (lo hi : Option Int) : Option DV := match x with
  | .tup l => some (.val (.tup (cutD l lo hi)))
  | .lst l => some (.new (.lst (cutD l lo hi)))
  | .frl l => some (.new (.lst (cutD l lo hi)))
  | .str z => if z.length ≤ sizeLine then some (.val (.str (cutS z lo hi))) else none
  | _ => none
abbrev MO := M (Option Int)
def tDO (K : PySem.W.Frag) (W : WX) (f : MO) : TO := fun σ H Q => ∃ w S, Rel K w S σ H ∧ (f S).to (fun o S' => ∀ w' H', Stp w S.r σ H w' S'.r σ H' → Rel K w' S' σ H' → Q o H') (exW K W w S.r σ H)
abbrev DO (X : Cx) (W : WX) (e : Option Expr) (f : MO) : Prop := PO X e (tDO X.K W f)
def oNo : MO := fun S => .ok none S
def oSo (f : M DV) : MO := fun S => (f S).bnd fun dv S1 => match dv.fz with
  | .int i => .ok (some i) S1
  | _ => .stk
variable {W : WX} {e : Expr} {fe : M DV} {lo hi : Option Expr} {fl fh : MO} {pos p2 : Pos}
theorem po_imp {e : Option Expr} {t t' : TO} (h : PO X e t) (i : ∀ σ H Q, t' σ H Q → t σ H Q) : PO X e t' := ⟨fun pins s σ H Q I hw => h.run pins s σ H Q I (i _ _ _ hw)⟩
theorem do_no : DO X W none oNo := po_imp po_none fun σ H Q ⟨w, S, R, h⟩ => h w H Stp.refl R
theorem do_so (h : DE X W e fe) : DO X W (some e) (oSo fe) := by
  refine po_imp (po_some h) fun σ H Q hw => ?_
  obtain ⟨w, S, R, h⟩ := hw
  refine ⟨w, S, R, Res.to_imp (Res.to_bnd h) (fun dv S1 h1 => ?_) fun _ _ z => z⟩
  intro w1 v H1 s1 R1 x1
  have q := x1.rq
  cases e1 : dv.fz with
  | int i =>
    rw [e1] at h1 q
    exact ⟨i, q.int, h1 w1 H1 s1 R1⟩
  | _ => rw [e1] at h1; exact h1.elim
def mSl (f : M DV) (l h : MO) : M DV := fun S => (f S).bnd fun x S1 => (l S1).bnd fun lo S2 => (h S2).bnd fun hi S3 => oRes (fSl x.fz lo hi) S3
def rSlD (K : PySem.W.Frag) : V → Option Int → Option Int → Hp → VK → Prop := fun x lo hi H Q => rSlL K x lo hi H Q ∨ rSlA K x lo hi H Q ∨ rSlS x lo hi H Q
theorem sl_D : SlR X (rSlD X.K) := SlR.or sl_list (SlR.or sl_tupA sl_str)
theorem fSl_ok {w : Wd} {S : Sta} {σ : Sg} {H : Hp} {x : V} {a : D} {dv : DV} {Q : VK} {lo hi : Option Int} (R : Rel X.K w S σ H) (qa : Rq X.K w H x a) (e : fSl a lo hi = some dv) (h3 : okD X.K w S.r σ H Q dv S) : rSlD X.K x lo hi H Q := by
  unfold fSl at e
  split at e
  · cases e
    obtain ⟨p, xs, ex, h1, r1⟩ := qa.tup
    rename_i l
    refine .inr (.inl ⟨p, xs, ex, h1, fun hw => ?_, fun _ => newTup R (r1.cut lo hi) h3⟩)
    have ec : cutD l lo hi = l := by
      unfold cutD
      rw [← r1.length, hw.1, hw.2, List.drop_zero, Nat.sub_zero, r1.length, List.take_length]
    rw [ec] at h3
    subst ex
    exact h3.here R qa.tupF
  · cases e
    obtain ⟨p, xs, ex, h1, r1⟩ := qa.lst
    exact .inl ⟨p, xs, ex, SqL.of h1, newLst R (r1.cut lo hi) h3⟩
  · cases e
    obtain ⟨p, xs, ex, h1, r1⟩ := qa.frl
    exact .inl ⟨p, xs, ex, h1, newLst R (r1.cut lo hi) h3⟩
  · split at e
    · cases e
      exact .inr (.inr ⟨_, qa.str, by assumption, h3.here R (.str _)⟩)
    · cases e
  · cases e
theorem de_sl (ha : DE X W e fe) (hl : DO X W lo fl) (hh : DO X W hi fh) : DE X W (.Subscript e (.Slice lo hi none p2) pos) (mSl fe fl fh) := by
  refine pe_imp (pe_slice sl_D ha hl hh) fun σ H Q hw => ?_
  obtain ⟨w, S, R, h⟩ := hw
  refine ⟨w, S, R, Res.to_imp (Res.to_bnd h) (fun x S1 h1 => ?_) fun _ _ z => z⟩
  intro w1 v H1 s1 R1 x1
  refine ⟨w1, S1, R1, Res.to_imp (Res.to_bnd h1) (fun l S2 h2 => ?_) fun _ _ z => z.later s1⟩
  intro w2 H2 s2 R2
  have s02 := s1.trans s2
  refine ⟨w2, S2, R2, Res.to_imp (Res.to_bnd h2) (fun u S3 h3 => ?_) fun _ _ z => z.later s02⟩
  intro w3 H3 s3 R3
  obtain ⟨dv, e1, h4⟩ := oRes_to h3
  have s03 := s02.trans s3
  have x3 := x1.later R1 (s2.trans s3)
  exact fSl_ok R3 x3.rq e1 fun w4 z H4 s4 R4 x4 => h4 w4 z H4 (s03.trans s4) R4 (x4.start s03)
def mSlL (i : Nat) (l h : MO) : M DV := fun S => match peek S i with
  | none => .stk
  | some _ => (l S).bnd fun lo S2 => (h S2).bnd fun hi S3 => match peek S3 i with
    | none => .stk
    | some x => oRes (fSl x lo hi) S3
theorem de_slL {i : Nat} (ha : PE X e (tVar i)) (hl : DO X W lo fl) (hh : DO X W hi fh) : DE X W (.Subscript e (.Slice lo hi none p2) pos) (mSlL i fl fh) := by
  refine pe_imp (pe_slice sl_D ha hl hh) fun σ H Q hw => ?_
  obtain ⟨w1, S1, R1, h1⟩ := hw
  unfold mSlL at h1
  cases e0 : peek S1 i with
  | none => rw [e0] at h1; exact h1.elim
  | some d0 =>
    rw [e0] at h1
    obtain ⟨v, ev, _⟩ := R1.peek e0
    refine ⟨v, ev, w1, S1, R1, Res.to_imp (Res.to_bnd h1) (fun l S2 h2 => ?_) fun _ _ z => z⟩
    intro w2 H2 s2 R2
    refine ⟨w2, S2, R2, Res.to_imp (Res.to_bnd h2) (fun u S3 h3 => ?_) fun _ _ z => z.later s2⟩
    intro w3 H3 s3 R3
    cases e2 : peek S3 i with
    | none => rw [e2] at h3; exact h3.elim
    | some d =>
      rw [e2] at h3
      obtain ⟨v', ev', q⟩ := R3.peek e2
      rw [ev] at ev'
      cases ev'
      obtain ⟨dv, e1, h4⟩ := oRes_to h3
      have s03 := s2.trans s3
      exact fSl_ok R3 q e1 fun w4 z H4 s4 R4 x4 => h4 w4 z H4 (s03.trans s4) R4 (x4.start s03)
end
end DL
namespace DL
open PySem PySem.Spec PyProof.Rows L2
/-! ### built-in calls -/
abbrev St1 (X : Cx) (a : Expr) : Prop := starEach [a] X.env = (false, eval a X.env) :: starEach [] X.env
abbrev St2 (X : Cx) (a b : Expr) : Prop := starEach [a, b] X.env = (false, eval a X.env) :: starEach [b] X.env
section
variable {X : Cx} {W : WX} {a b : Expr} {fa fb : M DV} {p pos : Pos} {x : Str}
theorem de_b1 {id : String} {rr : List V → Hp → VK → Prop} {g : List Ob → D → Option DV} (hc : CallR X (.builtin id) rr) (o : OCq X rr g) (hg : Gl X x) (hm : X.mg x = none) (hv : bootBuiltins x = some (.builtin id)) (h : DE X W a fa) (hs : St1 X a := by rfl) (hn : x ≠ "__name__" := by decide) (hdb : (x == ("__debug__" : Str)) = false := by decide)
    (hpl : (backTo pos (starEach [] X.env)).any (·.1) = false := by rfl) : DE X W (.Call (.Name x p) [a] [] pos) (mOp1 g fa) :=
  de_cb1 (fun t ht => pe_callB hc hg hm hv ht hn hdb hs hpl) o (pa_cons h pa_nil hs)
theorem de_t1 {T : String} {rr : List V → Hp → VK → Prop} {g : List Ob → D → Option DV} (hc : CallR X (.type T) rr) (o : OCq X rr g) (hg : Gl X x) (hm : X.mg x = none) (hv : bootBuiltins x = some (.type T)) (h : DE X W a fa) (hs : St1 X a := by rfl) (hn : x ≠ "__name__" := by decide) (hdb : (x == ("__debug__" : Str)) = false := by decide)
    (hpl : (backTo pos (starEach [] X.env)).any (·.1) = false := by rfl) : DE X W (.Call (.Name x p) [a] [] pos) (mOp1 g fa) :=
  de_cb1 (fun t ht => pe_callTy hc hg hm hv ht hn hdb hs hpl) o (pa_cons h pa_nil hs)
theorem de_b1L {id : String} {i : Nat} {rr : List V → Hp → VK → Prop} {g : List Ob → D → Option DV} (hc : CallR X (.builtin id) rr) (o : OCq X rr g) (hg : Gl X x) (hm : X.mg x = none) (hv : bootBuiltins x = some (.builtin id)) (h : PE X a (tVar i)) (hs : St1 X a := by rfl) (hn : x ≠ "__name__" := by decide) (hdb : (x == ("__debug__" : Str)) = false := by decide)
    (hpl : (backTo pos (starEach [] X.env)).any (·.1) = false := by rfl) : DE X W (.Call (.Name x p) [a] [] pos) (mOp1L g i) :=
  de_cb1L (fun ht => pe_callB hc hg hm hv ht hn hdb hs hpl) o (pa_cons h pa_nil hs)
theorem de_bN {id : String} {rr : List V → Hp → VK → Prop} {g : List Ob → List D → Option DV} {es : List Expr} {f : M (List D)} (hc : CallR X (.builtin id) rr) (o : OC X rr g) (hg : Gl X x) (hm : X.mg x = none) (hv : bootBuiltins x = some (.builtin id)) (h : DA X W (a :: es) f) (hs : starEach (a :: es) X.env = (false, eval a X.env) :: starEach es X.env := by rfl) (hn : x ≠ "__name__" := by decide) (hdb : (x == ("__debug__" : Str)) = false := by decide)
    (hpl : (backTo pos (starEach es X.env)).any (·.1) = false := by rfl) : DE X W (.Call (.Name x p) (a :: es) [] pos) (mCB g f) :=
  de_cb (fun t ht => pe_callB hc hg hm hv ht hn hdb hs hpl) o h
end
/-! ### which -/
def intsD : List D → Option (List Int)
  | [] => some []
  | .int i :: r => (intsD r).map (i :: ·)
  | _ => none
def blsD : List D → Option (List Bool)
  | [] => some []
  | .bl i :: r => (blsD r).map (i :: ·)
  | _ => none
def strsD : List D → Option (List Str)
  | [] => some []
  | .str i :: r => (strsD r).map (i :: ·)
  | _ => none
theorem intsD_eq : ∀ {l : List D} {ns : List Int}, intsD l = some ns → l = ns.map D.int
  | [], ns, h => by cases h; rfl
  | .int i :: r, ns, h => by
    obtain ⟨ms, e1, e2⟩ := Option.map_eq_some_iff.mp (show (intsD r).map (i :: ·) = some ns from h)
    cases e2
    rw [intsD_eq e1]; rfl
  | .non :: r, ns, h => by cases h
  | .bl _ :: r, ns, h => by cases h
  | .str _ :: r, ns, h => by cases h
  | .tup _ :: r, ns, h => by cases h
  | .lst _ :: r, ns, h => by cases h
  | .dic _ :: r, ns, h => by cases h
  | .frl _ :: r, ns, h => by cases h
  | .loc _ :: r, ns, h => by cases h
  | .gl _ :: r, ns, h => by cases h
  | .ty _ :: r, ns, h => by cases h
theorem blsD_eq : ∀ {l : List D} {ns : List Bool}, blsD l = some ns → l = ns.map D.bl
  | [], ns, h => by cases h; rfl
  | .bl i :: r, ns, h => by
    obtain ⟨ms, e1, e2⟩ := Option.map_eq_some_iff.mp (show (blsD r).map (i :: ·) = some ns from h)
    cases e2
    rw [blsD_eq e1]; rfl
  | .non :: r, ns, h => by cases h
  | .int _ :: r, ns, h => by cases h
  | .str _ :: r, ns, h => by cases h
  | .tup _ :: r, ns, h => by cases h
  | .lst _ :: r, ns, h => by cases h
  | .dic _ :: r, ns, h => by cases h
  | .frl _ :: r, ns, h => by cases h
  | .loc _ :: r, ns, h => by cases h
  | .gl _ :: r, ns, h => by cases h
  | .ty _ :: r, ns, h => by cases h
theorem strsD_eq : ∀ {l : List D} {ns : List Str}, strsD l = some ns → l = ns.map D.str
  | [], ns, h => by cases h; rfl
  | .str i :: r, ns, h => by
    obtain ⟨ms, e1, e2⟩ := Option.map_eq_some_iff.mp (show (strsD r).map (i :: ·) = some ns from h)
    cases e2
    rw [strsD_eq e1]; rfl
  | .non :: r, ns, h => by cases h
  | .int _ :: r, ns, h => by cases h
  | .bl _ :: r, ns, h => by cases h
  | .tup _ :: r, ns, h => by cases h
  | .lst _ :: r, ns, h => by cases h
  | .dic _ :: r, ns, h => by cases h
  | .frl _ :: r, ns, h => by cases h
  | .loc _ :: r, ns, h => by cases h
  | .gl _ :: r, ns, h => by cases h
  | .ty _ :: r, ns, h => by cases h
@[simp] theorem intsD_map (ns : List Int) : intsD (ns.map D.int) = some ns := by
  induction ns with
  | nil => rfl
  | cons n ns ih => rw [List.map_cons]; show (intsD (ns.map D.int)).map (n :: ·) = _; rw [ih]; rfl
@[simp] theorem blsD_map (ns : List Bool) : blsD (ns.map D.bl) = some ns := by
  induction ns with
  | nil => rfl
  | cons n ns ih => rw [List.map_cons]; show (blsD (ns.map D.bl)).map (n :: ·) = _; rw [ih]; rfl
@[simp] theorem strsD_map (ns : List Str) : strsD (ns.map D.str) = some ns := by
  induction ns with
  | nil => rfl
  | cons n ns ih => rw [List.map_cons]; show (strsD (ns.map D.str)).map (n :: ·) = _; rw [ih]; rfl
/-! ### their rules -/
def fLen : List Ob → D → Option DV := fun _ x => match x with
  | .str z => if z.length ≤ sizeLine then some (.val (.int z.length)) else none
  | .tup l => some (.val (.int l.length))
  | .lst l => some (.val (.int l.length))
  | _ => none
def fAbs : List Ob → D → Option DV := fun _ x => match x with
  | .int i => some (.val (.int (if i < 0 then -i else i)))
  | _ => none
def fInt : List Ob → D → Option DV := fun _ x => match x with
  | .int i => some (.val (.int i))
  | .bl k => some (.val (.int (if k then 1 else 0)))
  | _ => none
def fStr : List Ob → D → Option DV := fun _ x => match x with
  | .int i => if i.natAbs.log2 < 1920 then some (.val (.str (toString i))) else none
  | _ => none
def fAll : List Ob → D → Option DV := fun _ x => match x with
  | .lst l => (blsD l).map fun bs => .val (.bl (bs.all id))
  | _ => none
def fAny : List Ob → D → Option DV := fun _ x => match x with
  | .lst l => (blsD l).map fun bs => .val (.bl (bs.any id))
  | _ => none
def fSum : List Ob → D → Option DV := fun _ x => match x with
  | .lst l => (intsD l).map fun bs => .val (.int bs.sum)
  | _ => none
def fTuple : List Ob → D → Option DV := fun _ x => match x with
  | .lst l => some (.val (.tup l))
  | .tup l => some (.val (.tup l))
  | _ => none
def fList : List Ob → D → Option DV := fun _ x => match x with
  | .lst l => some (.new (.lst l))
  | .tup l => some (.new (.lst l))
  | _ => none
section
variable {X : Cx}
theorem oq_len : OCq X (fun xs H Q => ∃ x n, xs = [x] ∧ LenV X.K x H n ∧ Q (.int n) H) fLen := fun w S σ H x a dv Q R q e h3 => by
  unfold fLen at e
  split at e
  · split at e
    · cases e
      have := q.str
      subst this
      exact ⟨_, _, rfl, ⟨by assumption, rfl⟩, h3.here R (.int _)⟩
    · cases e
  · cases e
    obtain ⟨p, xs, ex, h1, r1⟩ := q.tup
    subst ex
    rw [← r1.length] at h3
    exact ⟨_, _, rfl, .inr ⟨xs, h1, rfl⟩, h3.here R (.int _)⟩
  · cases e
    obtain ⟨p, xs, ex, h1, r1⟩ := q.lst
    subst ex
    rw [← r1.length] at h3
    exact ⟨_, _, rfl, .inl ⟨xs, SqL.of h1, rfl⟩, h3.here R (.int _)⟩
  · cases e
theorem oq_abs : OCq X (fun xs H Q => ∃ i, xs = [.int i] ∧ Q (.int (if i < 0 then -i else i)) H) fAbs := fun w S σ H x a dv Q R q e h3 => by
  unfold fAbs at e
  split at e
  · cases e
    rw [q.int]
    exact ⟨_, rfl, h3.here R (.int _)⟩
  · cases e
theorem oq_int : OCq X (fun xs H Q => (∃ i, xs = [.int i] ∧ Q (.int i) H) ∨ ∃ k, xs = [.bl k] ∧ Q (.int (if k then 1 else 0)) H) fInt := fun w S σ H x a dv Q R q e h3 => by
  unfold fInt at e
  split at e
  · cases e
    rw [q.int]
    exact .inl ⟨_, rfl, h3.here R (.int _)⟩
  · cases e
    rw [q.bl]
    exact .inr ⟨_, rfl, h3.here R (.int _)⟩
  · cases e
theorem oq_str : OCq X (fun xs H Q => ∃ i, xs = [.int i] ∧ i.natAbs.log2 < 1920 ∧ Q (.str (toString i)) H) fStr := fun w S σ H x a dv Q R q e h3 => by
  unfold fStr at e
  split at e
  · split at e
    · cases e
      rw [q.int]
      exact ⟨_, rfl, by assumption, h3.here R (.str _)⟩
    · cases e
  · cases e
theorem oq_all : OCq X (rAll X.K) fAll := fun w S σ H x a dv Q R q e h3 => by
  unfold fAll at e
  split at e
  · obtain ⟨bs, e1, e2⟩ := Option.map_eq_some_iff.mp e
    cases e2
    obtain ⟨p, xs, ex, h1, r1⟩ := q.lst
    rw [blsD_eq e1] at r1
    have := r1.bls
    subst this
    subst ex
    exact ⟨p, bs, rfl, SqL.of h1, h3.here R (.bl _)⟩
  · cases e
theorem oq_any : OCq X (rAny X.K) fAny := fun w S σ H x a dv Q R q e h3 => by
  unfold fAny at e
  split at e
  · obtain ⟨bs, e1, e2⟩ := Option.map_eq_some_iff.mp e
    cases e2
    obtain ⟨p, xs, ex, h1, r1⟩ := q.lst
    rw [blsD_eq e1] at r1
    have := r1.bls
    subst this
    subst ex
    exact ⟨p, bs, rfl, SqL.of h1, h3.here R (.bl _)⟩
  · cases e
theorem oq_sum : OCq X (rSum X.K) fSum := fun w S σ H x a dv Q R q e h3 => by
  unfold fSum at e
  split at e
  · obtain ⟨bs, e1, e2⟩ := Option.map_eq_some_iff.mp e
    cases e2
    obtain ⟨p, xs, ex, h1, r1⟩ := q.lst
    rw [intsD_eq e1] at r1
    have := r1.ints
    subst this
    subst ex
    exact ⟨p, bs, rfl, SqL.of h1, h3.here R (.int _)⟩
  · cases e
theorem oq_tuple : OCq X (fun xs H Q => ∃ p ys, xs = [.ref p] ∧ ((SqL X.K H p ys ∧ ∀ l, H l = none → Q (.ref l) (upd H l (.tup ys))) ∨ (SqT X.K H p ys ∧ Q (.ref p) H))) fTuple := fun w S σ H x a dv Q R q e h3 => by
  unfold fTuple at e
  split at e
  · cases e
    obtain ⟨p, xs, ex, h1, r1⟩ := q.lst
    subst ex
    exact ⟨p, xs, rfl, .inl ⟨SqL.of h1, newTup R r1 h3⟩⟩
  · cases e
    obtain ⟨p, xs, ex, h1, r1⟩ := q.tup
    subst ex
    exact ⟨p, xs, rfl, .inr ⟨h1, h3.here R q.tupF⟩⟩
  · cases e
theorem oq_list : OCq X (fun xs H Q => ∃ p ys, xs = [.ref p] ∧ (SqL X.K H p ys ∨ SqT X.K H p ys) ∧ ∀ l, H l = none → Q (.ref l) (upd H l (.lst ys))) fList := fun w S σ H x a dv Q R q e h3 => by
  unfold fList at e
  split at e
  · cases e
    obtain ⟨p, xs, ex, h1, r1⟩ := q.lst
    subst ex
    exact ⟨p, xs, rfl, .inl (SqL.of h1), newLst R r1 h3⟩
  · cases e
    obtain ⟨p, xs, ex, h1, r1⟩ := q.tup
    subst ex
    exact ⟨p, xs, rfl, .inr h1, newLst R r1 h3⟩
  · cases e
/-! ### two ints -/
def fMax2 : List Ob → List D → Option DV := fun _ xs => match xs with
  | [.int i, .int j] => some (.val (.int (if j > i then j else i)))
  | _ => none
def fMin2 : List Ob → List D → Option DV := fun _ xs => match xs with
  | [.int i, .int j] => some (.val (.int (if j < i then j else i)))
  | _ => none
theorem Reps.two {K : PySem.W.Frag} {w : Wd} {H : Hp} {vs : List V} {a b : D} (r : Reps K w H vs [a, b]) : ∃ x y, vs = [x, y] ∧ Rep K w H x a ∧ Rep K w H y b := by
  cases r with
  | cons h1 t =>
    cases t with
    | cons h2 t =>
      cases t
      exact ⟨_, _, rfl, h1, h2⟩
theorem oc_max2 : OC X (fun xs H Q => ∃ i j, xs = [.int i, .int j] ∧ Q (.int (if j > i then j else i)) H) fMax2 := fun w S σ H xs as dv Q R q e h3 => by
  unfold fMax2 at e
  split at e
  · cases e
    obtain ⟨x, y, rfl, h1, h2⟩ := q.two
    cases h1
    cases h2
    exact ⟨_, _, rfl, h3.here R (.int _)⟩
  · cases e
theorem oc_min2 : OC X (fun xs H Q => ∃ i j, xs = [.int i, .int j] ∧ Q (.int (if j < i then j else i)) H) fMin2 := fun w S σ H xs as dv Q R q e h3 => by
  unfold fMin2 at e
  split at e
  · cases e
    obtain ⟨x, y, rfl, h1, h2⟩ := q.two
    cases h1
    cases h2
    exact ⟨_, _, rfl, h3.here R (.int _)⟩
  · cases e
/-! ### isinstance with built-in types -/
def tyD : D → String
  | .non => "NoneType"
  | .bl _ => "bool"
  | .int _ => "int"
  | .str _ => "str"
  | .tup _ => "tuple"
  | .lst _ => "list"
  | .dic _ => "dict"
  | .frl _ => ""
  | .loc _ => ""
  | .gl _ => ""
  | .ty _ => ""
def knownT : List String := ["NoneType", "bool", "int", "str", "tuple", "list", "dict"]
def isT (a b : String) : Bool := decide (a = b) || (decide (a = "bool") && decide (b = "int"))
theorem isT_ok : (knownT.all fun a => knownT.all fun b => decide (kitB a b = some (isT a b))) = true := by decide +kernel
def fIsi : List Ob → List D → Option DV := fun _ xs => match xs with
  | [a, .ty n] => if knownT.contains (tyD a) && knownT.contains n then some (.val (.bl (isT (tyD a) n))) else none
  | _ => none
theorem Rep.tyX {K : PySem.W.Frag} {w : Wd} {H : Hp} {v : V} {d : D} (x : Rep K w H v d) (hk : knownT.contains (tyD d) = true) : TyX K H v (.type (tyD d)) := by
  cases x with
  | non => exact .base .non
  | bl b => exact .base (.bl b)
  | int i => exact .base (.int i)
  | str i => exact .base (.str i)
  | tup h1 r =>
    rcases h1 with h1 | ⟨o, _, _, h1, h2, _⟩
    · exact .base (.tup h1.2)
    · exact .kTuple h1 h2
  | lst h1 r => exact .base (.lst h1.2)
  | dic h1 r => exact .base (.dK h1.2)
  | frl h1 r => exact absurd hk (show ¬ knownT.contains "" = true by decide +kernel)
  | loc h1 => exact absurd hk (show ¬ knownT.contains "" = true by decide +kernel)
  | gl x => exact absurd hk (show ¬ knownT.contains "" = true by decide +kernel)
  | ty n => exact absurd hk (show ¬ knownT.contains "" = true by decide +kernel)
theorem kitB_of {a b : String} (ha : knownT.contains a = true) (hb : knownT.contains b = true) : kitB a b = some (isT a b) := by
  have h := List.all_eq_true.mp isT_ok a (List.contains_iff_mem.mp ha)
  exact of_decide_eq_true (List.all_eq_true.mp h b (List.contains_iff_mem.mp hb))
theorem oc_isi : OC X (rIsi X.K) fIsi := fun w S σ H xs as dv Q R q e h3 => by
  unfold fIsi at e
  split at e
  · split at e
    · cases e
      rename_i a n hc
      obtain ⟨c1, c2⟩ := Bool.and_eq_true_iff.mp hc
      obtain ⟨x, y, rfl, h1, h2⟩ := q.two
      cases h2
      exact ⟨x, .ty n, _, .type n, _, rfl, .ty n, h1.tyX c1, kit_ty (kitB_of c1 c2), h3.here R (.bl _)⟩
    · cases e
  · cases e
/-! ### repr -/
def okRepr (d : D) : Bool := d.plain && d.py.showable && decide (d.py.depth ≤ 60) && decide (d.py.shown.length ≤ sizeLine)
def fRepr : List Ob → D → Option DV := fun _ x => if okRepr x = true then some (.val (.str x.py.shown)) else none
def rRepr (K : PySem.W.Frag) : List V → Hp → VK → Prop := fun xs H Q => ∃ x d, xs = [x] ∧ Dp K H x d ∧ d.showable = true ∧ d.depth ≤ 60 ∧ d.shown.length ≤ sizeLine ∧ d.hasDict = false ∧ Q (.str d.shown) H
theorem cr_repr (hgd : X.A.guards = some []) (hu : X.A.units + 64 < cLine) : CallR X (.builtin "repr") (rRepr X.K) := by
  intro pins s σ H xs us Q I r h
  obtain ⟨x, d, rfl, hd, hs, hdp, hsz, hnd, q⟩ := h
  obtain ⟨u, rfl, ru⟩ := vals1 r
  obtain ⟨as, rd⟩ := Dp.reads I d x u hd ru
  cases d with
  | none =>
    cases rd
    exact PySem.P.repr_of_none ⟨.str _, H, I.tok _, ⟨_, rfl⟩, by simpa only [PyData.shown] using q⟩
  | bool b =>
    cases rd
    exact PySem.P.repr_of_bool ⟨.str _, H, I.tok _, ⟨_, rfl⟩, by simpa only [PyData.shown] using q⟩
  | int i =>
    cases rd
    exact PySem.P.repr_of_int (by simpa [PyData.showable] using hs) ⟨.str _, H, I.tok _, ⟨_, rfl⟩, by simpa only [PyData.shown] using q⟩
  | str z =>
    cases rd
    exact PySem.P.repr_of_str ⟨.str _, H, I.tok _, ⟨_, rfl⟩, by simpa only [PyData.shown] using q⟩ (by simpa only [PyData.shown] using hsz)
  | list l =>
    cases ru' : rd with
    | list h1 h2 h3 h4 =>
      exact repr_of_reads' rd hs (PyData.noDict_hsm hnd) hgd (by omega) (fun _ _ e => e) (fun h' tk u hk => ⟨.str _, H, I.kept hk, ⟨_, rfl⟩, q⟩) hsz
  | tuple l =>
    cases ru' : rd with
    | tuple h1 h2 h3 h4 =>
      exact repr_of_reads' rd hs (PyData.noDict_hsm hnd) hgd (by omega) (fun _ _ e => e) (fun h' tk u hk => ⟨.str _, H, I.kept hk, ⟨_, rfl⟩, q⟩) hsz
  | dict kvs => cases hnd
mutual
theorem plain_noDict : ∀ d : D, d.plain = true → d.py.hasDict = false
  | .non, _ => by simp only [D.py, PyData.hasDict]
  | .bl _, _ => by simp only [D.py, PyData.hasDict]
  | .int _, _ => by simp only [D.py, PyData.hasDict]
  | .str _, _ => by simp only [D.py, PyData.hasDict]
  | .tup l, h => by
    simp only [D.py, PyData.hasDict]
    exact plainL_noDict l (by simpa only [D.plain] using h)
  | .lst l, h => by
    simp only [D.py, PyData.hasDict]
    exact plainL_noDict l (by simpa only [D.plain] using h)
  | .dic _, h => by simp [D.plain] at h
  | .frl _, h => by simp [D.plain] at h
  | .loc _, h => by simp [D.plain] at h
  | .gl _, h => by simp [D.plain] at h
  | .ty _, h => by simp [D.plain] at h
theorem plainL_noDict : ∀ l : List D, D.plainL l = true → PyData.hasDictAll (D.pyL l) = false
  | [], _ => by simp only [D.pyL, PyData.hasDictAll]
  | d :: ds, h => by
    simp only [D.plainL, Bool.and_eq_true] at h
    simp only [D.pyL, PyData.hasDictAll, plain_noDict d h.1, plainL_noDict ds h.2, Bool.or_self]
end
theorem oq_repr : OCq X (rRepr X.K) fRepr := fun w S σ H x a dv Q R q e h3 => by
  unfold fRepr at e
  split at e
  · cases e
    rename_i hk
    unfold okRepr at hk
    simp only [Bool.and_eq_true, decide_eq_true_eq] at hk
    exact ⟨x, _, rfl, q.dp hk.1.1.1, hk.1.1.2, hk.1.2, hk.2, plain_noDict _ hk.1.1.1, h3.here R (.str _)⟩
  · cases e
end
end DL
namespace DL
open PySem PySem.Spec PyProof.Rows L2
/-! ### changing objects -/
section
variable {K : PySem.W.Frag} {w : Wd} {S : Sta} {σ : Sg} {H : Hp} {i : Nat} {o o' : Ob} {a : Addr} {u : HO}
theorem Ltr.own (nf : ¬ w.F a) : Ltr w H w (L2.upd H a u) := ⟨fun _ h => h, List.prefix_refl _, fun b x f e => by rw [upd_ne (fun h => nf (by rw [← h]; exact f))]; exact e⟩
theorem Stp.own {r r' : List Sl} (oa : Own w r σ a) (ho : ∀ b, Own w r' σ b → Own w r σ b) : Stp w r σ H w r' σ (L2.upd H a u) where
  kp := fun b x e n => by rw [upd_ne (fun h => n (by rw [h]; exact oa))]; exact e
  ow := fun b h => .inl (ho b h)
  fz := fun b h => .inl h
  F := fun b h => h
  L := List.prefix_refl _
  dm := fun b n => by
    unfold L2.upd
    split
    · exact fun z => nomatch z
    · exact n
theorem Rel.wSlot (R : Rel K w S σ H) (h : S.r[i]? = some (Sl.own o)) (ha : σ[i]? = some (some (V.ref a))) (x : ObAt K w (upd H a u) a o') : Rel K w (S.set i (.own o')) σ (upd H a u) ∧ Stp w S.r σ H w (S.r.set i (.own o')) σ (upd H a u) := by
  obtain ⟨a', e1, h2, nf, nl⟩ := R.ow i o h
  rw [ha] at e1
  cases e1
  have hi : i < S.r.length := (List.getElem?_eq_some_iff.mp h).1
  have oa : Own w S.r σ a := .inr ⟨i, o, h, ha⟩
  have l : Ltr w H w (upd H a u) := Ltr.own nf
  have own : ∀ (j : Nat) (q : Ob), (S.r.set i (.own o'))[j]? = some (Sl.own q) → (j = i ∧ q = o') ∨ (j ≠ i ∧ S.r[j]? = some (Sl.own q)) := fun j q e => by
    by_cases hj : j = i
    · subst hj
      rw [List.getElem?_set_self hi] at e
      injection e with e; injection e with e
      exact .inl ⟨rfl, e.symm⟩
    · rw [List.getElem?_set_ne (Ne.symm hj)] at e; exact .inr ⟨hj, e⟩
  have own' : ∀ (j : Nat) (q : Ob), (S.r.set i (.own o'))[j]? = some (Sl.own q) → ∃ q', S.r[j]? = some (Sl.own q') := fun j q e => by
    rcases own j q e with ⟨rfl, _⟩ | ⟨_, e⟩
    · exact ⟨o, h⟩
    · exact ⟨q, e⟩
  refine ⟨⟨by simp [R.len], fun j d e => ?_, fun j q e => ?_, fun j k q q' b e e' h1 h2 => ?_, R.ml, fun n q e => ?_, R.nd, fun b f => ?_⟩, Stp.own oa fun b z => ?_⟩
  · by_cases hj : j = i
    · subst hj
      simp only [Sta.set_r] at e
      rw [List.getElem?_set_self hi] at e
      injection e with e; cases e
    · simp only [Sta.set_r] at e
      rw [List.getElem?_set_ne (Ne.symm hj)] at e
      obtain ⟨v, h1, h2⟩ := R.sl j d e
      exact ⟨v, h1, h2.later l⟩
  · rcases own j q e with ⟨rfl, rfl⟩ | ⟨hj, e⟩
    · exact ⟨a, ha, x, nf, nl⟩
    · obtain ⟨b, h1, h2, h3, h4⟩ := R.ow j q e
      have hb : b ≠ a := fun z => by subst z; exact hj (R.inj j i q o b e h h1 ha)
      exact ⟨b, h1, h2.later l (fun z hz => by rw [upd_ne hb]; exact hz), h3, h4⟩
  · obtain ⟨q1, e1⟩ := own' j q e
    obtain ⟨q2, e2⟩ := own' k q' e'
    exact R.inj j k q1 q2 b e1 e2 h1 h2
  · obtain ⟨b, h1, h2, h3⟩ := R.mu n q e
    have hb : b ≠ a := fun z => by subst z; exact nl (List.mem_of_getElem? h1)
    exact ⟨b, h1, h2.later l (fun z hz => by rw [upd_ne hb]; exact hz), h3⟩
  · unfold L2.upd
    split
    · exact fun z => nomatch z
    · exact R.fd b f
  · rcases z with z | ⟨j, q, e, h1⟩
    · exact .inl z
    · obtain ⟨q', e'⟩ := own' j q e
      exact .inr ⟨j, q', e', h1⟩
theorem Rel.wLoc {n : Nat} (R : Rel K w S σ H) (h : S.m[n]? = some o) (ha : w.L[n]? = some a) (x : ObAt K w (upd H a u) a o') : Rel K w ⟨S.r, S.m.set n o'⟩ σ (upd H a u) ∧ Stp w S.r σ H w S.r σ (upd H a u) := by
  obtain ⟨a', e1, h2, nf⟩ := R.mu n o h
  rw [ha] at e1
  cases e1
  have hm : a ∈ w.L := List.mem_of_getElem? ha
  have hn : n < S.m.length := (List.getElem?_eq_some_iff.mp h).1
  have oa : Own w S.r σ a := .inl hm
  have l : Ltr w H w (upd H a u) := Ltr.own nf
  refine ⟨⟨R.len, fun j d e => ?_, fun j q e => ?_, R.inj, by simp [R.ml], fun k q e => ?_, R.nd, fun b f => ?_⟩, Stp.own oa fun b z => z⟩
  · obtain ⟨v, h1, h2⟩ := R.sl j d e
    exact ⟨v, h1, h2.later l⟩
  · obtain ⟨b, h1, h2, h3, h4⟩ := R.ow j q e
    have hb : b ≠ a := fun z => by subst z; exact h4 hm
    exact ⟨b, h1, h2.later l (fun z hz => by rw [upd_ne hb]; exact hz), h3, h4⟩
  · by_cases hk : k = n
    · subst hk
      rw [List.getElem?_set_self hn] at e
      injection e with e
      subst e
      exact ⟨a, ha, x, nf⟩
    · rw [List.getElem?_set_ne (Ne.symm hk)] at e
      obtain ⟨b, h1, h2, h3⟩ := R.mu k q e
      have hb : b ≠ a := fun z => by
        subst z
        obtain ⟨hk1, e1⟩ := List.getElem?_eq_some_iff.mp h1
        obtain ⟨hn1, e2⟩ := List.getElem?_eq_some_iff.mp ha
        exact hk ((List.getElem_inj R.nd).mp (e1.trans e2.symm))
      exact ⟨b, h1, h2.later l (fun z hz => by rw [upd_ne hb]; exact hz), h3⟩
  · unfold L2.upd
    split
    · exact fun z => nomatch z
    · exact R.fd b f
end
/-- which object a slot names -/
def obj (S : Sta) (i : Nat) : Option Ob := match S.r[i]? with
  | some (.own o) => some o
  | some (.val (.loc n)) => S.m[n]?
  | _ => none
def setObj (S : Sta) (i : Nat) (o : Ob) : Sta := match S.r[i]? with
  | some (.val (.loc n)) => ⟨S.r, S.m.set n o⟩
  | _ => S.set i (.own o)
theorem Rel.obj {K : PySem.W.Frag} {w : Wd} {S : Sta} {σ : Sg} {H : Hp} {i : Nat} {o : Ob} (R : Rel K w S σ H) (h : obj S i = some o) : ∃ a, σ[i]? = some (some (V.ref a)) ∧ ObAt K w H a o ∧ ¬ w.F a ∧
    ∀ o' u, (ObAt K w (upd H a u) a o') → Rel K w (setObj S i o') σ (upd H a u) ∧ Stp w S.r σ H w (setObj S i o').r σ (upd H a u) := by
  unfold DL.obj at h
  split at h
  · rename_i o1 e
    injection h with h
    subst h
    obtain ⟨a, h1, h2, h3, h4⟩ := R.ow i _ e
    refine ⟨a, h1, h2, h3, fun o' u x => ?_⟩
    have := R.wSlot (o' := o') e h1 x
    have es : setObj S i o' = S.set i (.own o') := by unfold setObj; rw [e]
    rw [es]
    exact this
  · rename_i n e
    obtain ⟨v, h1, h2⟩ := R.sl i _ e
    obtain ⟨a, h3, h4, h5⟩ := R.mu n o h
    obtain ⟨a', e1, e2⟩ := Rq.loc (.inl h2)
    rw [h3] at e2
    cases e2
    subst e1
    refine ⟨a, h1, h4, h5, fun o' u x => ?_⟩
    have es : setObj S i o' = ⟨S.r, S.m.set n o'⟩ := by unfold setObj; rw [e]
    rw [es]
    exact R.wLoc h h3 x
  · cases h
theorem ObAt.lst' {K : PySem.W.Frag} {w : Wd} {H : Hp} {a : Addr} {xs : List V} {ds : List D} (nf : ¬ w.F a) (r : Reps K w H xs ds) : ObAt K w (upd H a (.lst xs)) a (.lst ds) := ⟨xs, upd_same, r.later (Ltr.own nf)⟩
theorem ObAt.dic' {K : PySem.W.Frag} {w : Wd} {H : Hp} {a : Addr} {xs : List (Key × V)} {ds : List (Key × D)} (nf : ¬ w.F a) (r : RepK K w H xs ds) : ObAt K w (upd H a (.dK xs)) a (.dic ds) := ⟨xs, upd_same, r.later (Ltr.own nf)⟩
/-! ### append, extend, a[i] = v -/
abbrev Few (X : Cx) (es : List Expr) (cpos : Pos) : Prop := ((backTo cpos (starEach es X.env)).all (fun x => !x.1) && (backToKw cpos (keywordEach [] X.env)).all (fun x => x.1.isSome) && decide (es.length + ([] : List Keyword).length + (if ([] : List Keyword).isEmpty then 0 else 1) < 30)) = true
abbrev Plain0 (X : Cx) (es : List Expr) (cpos : Pos) : Prop := (backTo cpos (starEach es X.env)).any (·.1) = false
/-- o.append(e), o a name -/
def mApp (i : Nat) (f : M DV) : M DV := fun S => match obj S i with
  | some (.lst _) => (f S).bnd fun dv S1 => match obj S1 i with
    | some (.lst ds) => if ds.length < sizeLine then .ok (.val .non) (setObj S1 i (.lst (ds ++ [dv.fz]))) else .stk
    | _ => .stk
  | _ => .stk
/-- o.extend(e), e a list just made -/
def mExt (i : Nat) (f : M DV) : M DV := fun S => match obj S i with
  | some (.lst _) => (f S).bnd fun dv S1 => match obj S1 i, dv with
    | some (.lst ds), .new (.lst es) => if ds.length + es.length ≤ sizeLine then .ok (.val .non) (setObj S1 i (.lst (ds ++ es))) else .stk
    | _, _ => .stk
  | _ => .stk
section
variable {X : Cx} {W : WX} {o e i' : Expr} {fe fi : M DV} {i : Nat} {apos cpos pos pos' : Pos}
theorem de_app (ho : PE X o (tVar i)) (he : DE X W e fe) (hs : St1 X e := by rfl) (hbase : attributeBase o "append" X.env (eval o X.env) = eval o X.env := by rfl) (hfew : Few X [e] cpos := by rfl) (hline : (apos.endLine == cpos.line) = true := by rfl) (hpl : Plain0 X [] cpos := by rfl) :
    DE X W (.Call (.Attribute o "append" apos) [e] [] cpos) (mApp i fe) := by
  refine pe_imp (pe_bm PySem.F.plainAttrs_list PySem.F.slot_list_append PySem.F.type_list_append mt_append ho (pa_cons he pa_nil hs) hbase hfew hline hs hpl) fun σ H Q hw => ?_
  obtain ⟨w, S, R, h⟩ := hw
  unfold mApp at h
  split at h
  · rename_i ds0 h0
    obtain ⟨a, ha, x0, _⟩ := R.obj h0
    obtain ⟨xs0, hx0, _⟩ := x0
    refine ⟨_, ha, .inl ⟨rfl, xs0, SqL.of hx0⟩, w, S, R, Res.to_imp (Res.to_bnd h) (fun dv S1 h1 => ?_) fun _ _ z => z⟩
    intro w1 v H1 s1 R1 x1
    obtain ⟨w2, R2, rp, l2, st⟩ := x1.frz R1
    have s2 := st _ _ _ s1
    split at h1
    · rename_i ds h3
      split at h1
      · rename_i hl
        obtain ⟨a', ha', x3, nf, up⟩ := R2.obj h3
        rw [ha] at ha'
        cases ha'
        obtain ⟨xs, hx, rr⟩ := x3
        refine ⟨a, xs, v, rfl, rfl, hx, by rw [rr.length]; exact hl, ?_⟩
        obtain ⟨R4, s4⟩ := up (.lst (ds ++ [dv.fz])) (.lst (xs ++ [v])) (ObAt.lst' nf (rr.append (.one rp)))
        exact (show okD X.K w S.r σ H Q (.val .non) _ from h1) w2 _ _ (s2.trans s4) R4 Rep.non
      · exact h1.elim
    · exact h1.elim
  · exact h.elim
theorem de_ext (ho : PE X o (tVar i)) (he : DE X W e fe) (hs : St1 X e := by rfl) (hbase : attributeBase o "extend" X.env (eval o X.env) = eval o X.env := by rfl) (hfew : Few X [e] cpos := by rfl) (hline : (apos.endLine == cpos.line) = true := by rfl) (hpl : Plain0 X [] cpos := by rfl) :
    DE X W (.Call (.Attribute o "extend" apos) [e] [] cpos) (mExt i fe) := by
  refine pe_imp (pe_bm PySem.F.plainAttrs_list PySem.F.slot_list_extend PySem.F.type_list_extend mt_extend ho (pa_cons he pa_nil hs) hbase hfew hline hs hpl) fun σ H Q hw => ?_
  obtain ⟨w, S, R, h⟩ := hw
  unfold mExt at h
  split at h
  · rename_i ds0 h0
    obtain ⟨a, ha, x0, _⟩ := R.obj h0
    obtain ⟨xs0, hx0, _⟩ := x0
    refine ⟨_, ha, .inl ⟨rfl, xs0, SqL.of hx0⟩, w, S, R, Res.to_imp (Res.to_bnd h) (fun dv S1 h1 => ?_) fun _ _ z => z⟩
    intro w1 v H1 s1 R1 x1
    split at h1
    · rename_i ds es h3
      split at h1
      · rename_i hl
        obtain ⟨b, eb, xb, nfb, nob, _⟩ := x1
        subst eb
        obtain ⟨ys, hy, ry⟩ := xb
        obtain ⟨a', ha', x3, nf, up⟩ := R1.obj h3
        rw [ha] at ha'
        cases ha'
        obtain ⟨xs, hx, rr⟩ := x3
        refine ⟨a, b, xs, ys, rfl, rfl, hx, hy, by rw [rr.length, ry.length]; exact hl, ?_⟩
        obtain ⟨R4, s4⟩ := up (.lst (ds ++ es)) (.lst (xs ++ ys)) (ObAt.lst' nf (rr.append ry))
        exact (show okD X.K w S.r σ H Q (.val .non) _ from h1) w1 _ _ (s1.trans s4) R4 Rep.non
      · exact h1.elim
    · exact h1.elim
  · exact h.elim
/-- o[i] = e, o a name of a list -/
def sSetIx (o : Nat) (fi fe : M DV) : M Fl := fun S => (fe S).bnd fun dv S1 => (match obj S1 o with
  | some (.lst _) => (fi S1).bnd fun iv S2 => match obj S2 o, iv.fz with
    | some (.lst ds), .int k => (match ixN ds.length k with
      | some j => .ok .nx (setObj S2 o (.lst (ds.set j dv.fz)))
      | none => .stk)
    | _, _ => .stk
  | _ => .stk)
theorem ds_setix (ho : PE X o (tVar i)) (hi : DE X W i' fi) (he : DE X W e fe)
    (ha : ∀ v, assign (.Subscript o i' pos') X.env v = (do
      let ov ← holding [v] (eval o X.env)
      let iv ← holding [v, ov] (eval i' X.env)
      standAt pos'
      holding [v, ov, iv] (setItem ov iv v)
      release [v, ov, iv] []) := by intro _; rfl)
    (hs : swapsWithSole [.Subscript o i' pos'] e pos.line X.env = pure false := by rfl) (hw : swappedStores [.Subscript o i' pos'] e X.env = pure none := by rfl) (h1 : (assignEach [.Subscript o i' pos'] X.env).map (·.2) = [assign (.Subscript o i' pos') X.env] := by rfl) :
    DS X W (.Assign [.Subscript o i' pos'] e pos) (sSetIx i fi fe) := by
  refine ps_imp (ps_asg he (pg_sub ho hi set_list ha) hs hw h1) fun D σ H hw => ?_
  obtain ⟨w, S, R, h⟩ := hw
  refine ⟨w, S, R, Res.to_imp (Res.to_bnd h) (fun dv S1 h1 => ?_) fun _ _ z => z⟩
  intro w1 v H1 s1 R1 x1
  obtain ⟨w2, R2, rp, l2, st⟩ := x1.frz R1
  have s2 := st _ _ _ s1
  split at h1
  · rename_i ds0 h0
    obtain ⟨a, ha, x0, _⟩ := R2.obj h0
    refine ⟨_, ha, w2, S1, R2, Res.to_imp (Res.to_bnd h1) (fun iv S2 h2 => ?_) fun _ _ z => z.later s2⟩
    intro w3 u H3 s3 R3 x3
    split at h2
    · rename_i ds k h4 e4
      split at h2
      · rename_i j ej
        obtain ⟨a', ha', x4, nf, up⟩ := R3.obj h4
        rw [ha] at ha'
        cases ha'
        obtain ⟨xs, hx, rr⟩ := x4
        have q := x3.rq
        rw [e4] at q
        refine ⟨a, xs, k, j, rfl, q.int, hx, by rw [rr.length]; exact ej, ?_⟩
        obtain ⟨R5, s5⟩ := up (.lst (ds.set j dv.fz)) (.lst (xs.set j v)) (ObAt.lst' nf (rr.set (rp.later (s3.ltr R2)) j))
        exact (show okS X.K w S.r σ H D .nx _ from h2) w3 σ _ ((s2.trans s3).trans s5) R5
      · exact h2.elim
    · exact h2.elim
  · exact h1.elim
end
/-! ### dicts with ints and texts for keys -/
def keyD : D → Option Key
  | .int i => some (.inl i)
  | .str x => some (.inr x)
  | _ => none
def valD (l : List (Key × D)) (k : Key) : Option D := (l.find? fun kv => decide (kv.1 = k)).map (·.2)
def putD (l : List (Key × D)) (k : Key) (d : D) : List (Key × D) := if l.any (fun kv => decide (kv.1 = k)) then l.map (fun kv => if kv.1 = k then (kv.1, d) else kv) else l ++ [(k, d)]
section
variable {K : PySem.W.Frag} {w : Wd} {H : Hp}
theorem RepK.any {k : Key} : ∀ {vs : List (Key × V)} {ds : List (Key × D)}, RepK K w H vs ds → (vs.any fun kv => decide (kv.1 = k)) = ds.any fun kv => decide (kv.1 = k)
  | _, _, .nil => rfl
  | _, _, .cons r t => by simp only [List.any_cons, RepK.any t]
theorem RepK.val {k : Key} : ∀ {vs : List (Key × V)} {ds : List (Key × D)}, RepK K w H vs ds → (∀ d, valD ds k = some d → ∃ v, valV vs k = some v ∧ Rep K w H v d) ∧ (valD ds k = none → valV vs k = none)
  | _, _, .nil => ⟨fun d h => by simp [valD] at h, fun _ => rfl⟩
  | _, _, .cons (k := k') (v := v) (d := d') r t => by
    obtain ⟨h1, h2⟩ := RepK.val (k := k) t
    by_cases e : k' = k
    · refine ⟨fun d h => ?_, fun h => ?_⟩
      · simp [valD, List.find?_cons, e] at h
        subst h
        exact ⟨v, by simp [valV, List.find?_cons, e], r⟩
      · simp [valD, List.find?_cons, e] at h
    · refine ⟨fun d h => ?_, fun h => ?_⟩
      · obtain ⟨v, e1, e2⟩ := h1 d (by simpa [valD, List.find?_cons, e] using h)
        exact ⟨v, by rw [valV_neg e]; exact e1, e2⟩
      · rw [valV_neg e]
        exact h2 (by simpa [valD, List.find?_cons, e] using h)
theorem RepK.append : ∀ {vs us : List (Key × V)} {ds es : List (Key × D)}, RepK K w H vs ds → RepK K w H us es → RepK K w H (vs ++ us) (ds ++ es)
  | _, _, _, _, .nil, s => s
  | _, _, _, _, .cons r t, s => .cons r (RepK.append t s)
theorem RepK.repl {k : Key} {v : V} {d : D} (rp : Rep K w H v d) : ∀ {vs : List (Key × V)} {ds : List (Key × D)}, RepK K w H vs ds → RepK K w H (vs.map fun kv => if kv.1 = k then (kv.1, v) else kv) (ds.map fun kv => if kv.1 = k then (kv.1, d) else kv)
  | _, _, .nil => .nil
  | _, _, .cons (k := k') r t => by
    rw [List.map_cons, List.map_cons]
    by_cases e : k' = k
    · rw [if_pos e, if_pos e]
      exact .cons rp (RepK.repl rp t)
    · rw [if_neg e, if_neg e]
      exact .cons r (RepK.repl rp t)
theorem RepK.put {k : Key} {v : V} {d : D} (rp : Rep K w H v d) {vs : List (Key × V)} {ds : List (Key × D)} (r : RepK K w H vs ds) : RepK K w H (putK vs k v) (putD ds k d) := by
  unfold putK putD
  rw [r.any]
  split
  · exact r.repl rp
  · exact r.append (.cons rp .nil)
theorem keyD_v {v : V} {d : D} {k : Key} (q : Rq K w H v d) (h : keyD d = some k) : v = kV k := by
  unfold keyD at h
  split at h
  · cases h; exact q.int
  · cases h; exact q.str
  · cases h
end
/-- {} -/
def mDNew : M DV := fun S => .ok (.new (.dic [])) S
/-- d[k], k in d, by a name -/
def mDGet (i : Nat) (fk : M DV) : M DV := fun S => match peek S i with
  | some _ => (fk S).bnd fun kv S1 => match peek S1 i, keyD kv.fz with
    | some (.dic l), some k => (match valD l k with
      | some d => .ok (.val d) S1
      | none => .stk)
    | _, _ => .stk
  | none => .stk
def mDIn (neg : Bool) (fk : M DV) (i : Nat) : M DV := fun S => (fk S).bnd fun kv S1 => match peek S1 i, keyD kv.fz with
  | some (.dic l), some k => .ok (.val (.bl (if neg then !(valD l k).isSome else (valD l k).isSome))) S1
  | _, _ => .stk
def sDPut (i : Nat) (fk fe : M DV) : M Fl := fun S => (fe S).bnd fun dv S1 => (match obj S1 i with
  | some (.dic _) => (fk S1).bnd fun kv S2 => match obj S2 i, keyD kv.fz with
    | some (.dic l), some k => if l.length < sizeLine then .ok .nx (setObj S2 i (.dic (putD l k dv.fz))) else .stk
    | _, _ => .stk
  | _ => .stk)
section
variable {X : Cx} {W : WX} {o e k' : Expr} {fe fk : M DV} {i : Nat} {pos pos' p : Pos} {a : Expr} {fa : M DV}
theorem de_dnew : DE X W (.Dict [] [] pos) mDNew := by
  refine pe_imp pe_dnewK fun σ H Q hw => ?_
  obtain ⟨w, S, R, h⟩ := hw
  exact newDic R .nil h
theorem dget_of {K : PySem.W.Frag} {w : Wd} {H : Hp} {v u : V} {l : List (Key × D)} {d : D} {k : Key} (qd : Rq K w H v (.dic l)) (qk : Rq K w H u d) (hk : keyD d = some k) : ∃ a o, v = .ref a ∧ DGet H a u o ∧ (∀ d, valD l k = some d → ∃ v', o = some v' ∧ Rep K w H v' d) ∧ (valD l k = none → o = none) := by
  obtain ⟨a, kvs, ea, ha, r⟩ := qd.dic
  refine ⟨a, valV kvs k, ea, ?_, (r.val (k := k)).1, (r.val (k := k)).2⟩
  rw [keyD_v qk hk]
  exact DGet.k ha
theorem de_dget (hu : X.A.units + 1 < cLine) (ho : PE X o (tVar i)) (hk : DE X W k' fk) (hs : NoSl k' := by intro _ _; rfl) : DE X W (.Subscript o k' pos) (mDGet i fk) := by
  refine pe_imp (pe_dget hu ho hk hs) fun σ H Q hw => ?_
  obtain ⟨w, S, R, h⟩ := hw
  unfold mDGet at h
  split at h
  · rename_i d0 e0
    obtain ⟨v, ev, _⟩ := R.peek e0
    refine ⟨v, ev, w, S, R, Res.to_imp (Res.to_bnd h) (fun kv S1 h1 => ?_) fun _ _ z => z⟩
    intro w1 u H1 s1 R1 x1
    split at h1
    · rename_i l k e1 e2
      obtain ⟨v', ev', q⟩ := R1.peek e1
      rw [ev] at ev'
      cases ev'
      obtain ⟨a, r, ea, hg, hy, _⟩ := dget_of q x1.rq e2
      split at h1
      · rename_i d e3
        obtain ⟨v', rfl, rp⟩ := hy d e3
        exact ⟨a, v', ea, hg, (show okD X.K w S.r σ H Q (.val d) S1 from h1) w1 _ H1 s1 R1 rp⟩
      · exact h1.elim
    · exact h1.elim
  · exact h.elim
theorem red_din {neg : Bool} {σ : Sg} {H : Hp} {Q : VK} (h : tD X.K W (mDIn neg fk i) σ H Q) : (if neg then tDNotIn (tD X.K W fk) (tVar i) else tDIn (tD X.K W fk) (tVar i)) σ H Q := by
  have key : ∀ (T : Bool → Bool), (∀ b, T b = if neg then !b else b) → tD X.K W fk σ H fun y H1 => (tVar i) σ H1 fun x H2 => ∃ a o, x = .ref a ∧ DGet H2 a y o ∧ Q (.bl (T o.isSome)) H2 := fun T hT => by
    obtain ⟨w, S, R, h⟩ := h
    refine ⟨w, S, R, Res.to_imp (Res.to_bnd h) (fun kv S1 h1 => ?_) fun _ _ z => z⟩
    intro w1 u H1 s1 R1 x1
    split at h1
    · rename_i l k e1 e2
      obtain ⟨v', ev', q⟩ := R1.peek e1
      obtain ⟨a, r, ea, hg, hy, hn⟩ := dget_of q x1.rq e2
      refine ⟨v', ev', a, r, ea, hg, ?_⟩
      have hb : r.isSome = (valD l k).isSome := by
        cases e3 : valD l k with
        | none => rw [hn e3]; rfl
        | some d =>
          obtain ⟨v', e4, _⟩ := hy d e3
          rw [e4]; rfl
      rw [hT, hb]
      exact (show okD X.K w S.r σ H Q _ S1 from h1) w1 _ H1 s1 R1 (Rep.bl _)
    · exact h1.elim
  cases neg with
  | true => exact key (fun b => !b) fun b => rfl
  | false => exact key (fun b => b) fun b => rfl
theorem de_din (hu : X.A.units + 1 < cLine) (hk : DE X W k' fk) (ho : PE X o (tVar i)) (h1 : behindInMarks .In o = false := by rfl) : DE X W (.Compare k' [.In] [o] pos) (mDIn false fk i) := pe_imp (pe_cmp (pc_din hu hk ho) h1) fun _ _ _ h => red_din h
theorem de_dnotin (hu : X.A.units + 1 < cLine) (hk : DE X W k' fk) (ho : PE X o (tVar i)) (h1 : behindInMarks .NotIn o = false := by rfl) : DE X W (.Compare k' [.NotIn] [o] pos) (mDIn true fk i) := pe_imp (pe_cmp (pc_dnotin hu hk ho) h1) fun _ _ _ h => red_din h
theorem dt_din (hu : X.A.units + 1 < cLine) (hk : DE X W k' fk) (ho : PE X o (tVar i)) (h1 : behindInMarks .In o = false := by rfl) : DT X W (.Compare k' [.In] [o] pos) (mB (mDIn false fk i)) := dt_of (pt_imp (pt_cmp (pc_din hu hk ho) h1) fun _ _ _ h => red_din h)
theorem dt_dnotin (hu : X.A.units + 1 < cLine) (hk : DE X W k' fk) (ho : PE X o (tVar i)) (h1 : behindInMarks .NotIn o = false := by rfl) : DT X W (.Compare k' [.NotIn] [o] pos) (mB (mDIn true fk i)) := dt_of (pt_imp (pt_cmp (pc_dnotin hu hk ho) h1) fun _ _ _ h => red_din h)
theorem ds_dput (hu : X.A.units + 1 < cLine) (ho : PE X o (tVar i)) (hk : DE X W k' fk) (he : DE X W e fe) (hs : swapsWith e (some (.Subscript o k' pos')) pos.line X.env = pure false := by rfl) : DS X W (.Assign [.Subscript o k' pos'] e pos) (sDPut i fk fe) := by
  refine ps_imp (ps_dput hu ho hk he hs) fun D σ H hw => ?_
  obtain ⟨w, S, R, h⟩ := hw
  refine ⟨w, S, R, Res.to_imp (Res.to_bnd h) (fun dv S1 h1 => ?_) fun _ _ z => z⟩
  intro w1 v H1 s1 R1 x1
  obtain ⟨w2, R2, rp, l2, st⟩ := x1.frz R1
  have s2 := st _ _ _ s1
  split at h1
  · rename_i l0 h0
    obtain ⟨a, ha, x0, _⟩ := R2.obj h0
    refine ⟨_, ha, w2, S1, R2, Res.to_imp (Res.to_bnd h1) (fun kv S2 h2 => ?_) fun _ _ z => z.later s2⟩
    intro w3 u H3 s3 R3 x3
    split at h2
    · rename_i l k h4 e4
      split at h2
      · rename_i hl
        obtain ⟨a', ha', x4, nf, up⟩ := R3.obj h4
        rw [ha] at ha'
        cases ha'
        obtain ⟨kvs, hx, rr⟩ := x4
        obtain ⟨R5, s5⟩ := up (.dic (putD l k dv.fz)) (.dK (putK kvs k v)) (ObAt.dic' nf (rr.put (rp.later (s3.ltr R2))))
        refine ⟨a, _, rfl, by rw [keyD_v x3.rq e4]; exact DPut.k hx (by rw [rr.length]; exact hl), ?_⟩
        exact (show okS X.K w S.r σ H D .nx _ from h2) w3 σ _ ((s2.trans s3).trans s5) R5
      · exact h2.elim
    · exact h2.elim
  · exact h1.elim
/-- len(d) -/
def fLenD : List Ob → D → Option DV := fun _ x => match x with
  | .dic l => some (.val (.int l.length))
  | _ => none
theorem oq_lenD : OCq X (fun xs H Q => ∃ a kvs, xs = [V.ref a] ∧ H a = some (.dK kvs) ∧ Q (.int kvs.length) H) fLenD := fun w S σ H x a dv Q R q e h3 => by
  unfold fLenD at e
  split at e
  · cases e
    obtain ⟨p, xs, ex, h1, r1⟩ := q.dic
    subst ex
    rw [← r1.length] at h3
    exact ⟨_, _, rfl, h1, h3.here R (.int _)⟩
  · cases e
end
end DL
namespace DL
open PySem PySem.Spec PyProof.Rows L2
/-! ### zip, enumerate -/
def zipD : List D → List D → List D
  | a :: as, b :: bs => .tup [a, b] :: zipD as bs
  | _, _ => []
theorem zipD_get : ∀ {as bs : List D} {i : Nat} {d : D}, (zipD as bs)[i]? = some d → ∃ a b, as[i]? = some a ∧ bs[i]? = some b ∧ d = .tup [a, b]
  | [], _, i, d, h => by simp [zipD] at h
  | _ :: _, [], i, d, h => by simp [zipD] at h
  | a :: as, b :: bs, 0, d, h => by
    simp [zipD] at h
    exact ⟨a, b, rfl, rfl, h.symm⟩
  | a :: as, b :: bs, i + 1, d, h => by
    have h' : (zipD as bs)[i]? = some d := by simpa [zipD] using h
    obtain ⟨x, y, e1, e2, e3⟩ := zipD_get h'
    exact ⟨x, y, by simpa using e1, by simpa using e2, e3⟩
theorem zipD_len : ∀ (as bs : List D), (zipD as bs).length = min as.length bs.length
  | [], _ => by simp [zipD]
  | _ :: _, [] => by simp [zipD]
  | a :: as, b :: bs => by simp [zipD, zipD_len as bs]
def enumD (n : Nat) : List D → List D
  | [] => []
  | a :: as => .tup [.int (n : Nat), a] :: enumD (n + 1) as
theorem enumD_get : ∀ {as : List D} {n i : Nat} {d : D}, (enumD n as)[i]? = some d → ∃ a, as[i]? = some a ∧ d = .tup [.int ((n + i : Nat)), a]
  | [], n, i, d, h => by simp [enumD] at h
  | a :: as, n, 0, d, h => by
    simp [enumD] at h
    exact ⟨a, rfl, by rw [← h]; simp⟩
  | a :: as, n, i + 1, d, h => by
    have h' : (enumD (n + 1) as)[i]? = some d := by simpa [enumD] using h
    obtain ⟨x, e1, e2⟩ := enumD_get h'
    exact ⟨x, by simpa using e1, by rw [e2, show n + 1 + i = n + (i + 1) by omega]⟩
theorem enumD_len : ∀ (as : List D) (n : Nat), (enumD n as).length = as.length
  | [], _ => rfl
  | a :: as, n => by simp [enumD, enumD_len as]
def iZip (f : M (List D)) : M (List D) := fun S => (f S).bnd fun ds S1 => match ds with
  | [.lst a, .lst b] => .ok (zipD a b) S1
  | [.tup a, .tup b] => .ok (zipD a b) S1
  | _ => .stk
def iEnum (f : M DV) : M (List D) := fun S => (f S).bnd fun dv S1 => match dv.fz with
  | .lst a => .ok (enumD 0 a) S1
  | _ => .stk
section
variable {K : PySem.W.Frag} {w : Wd} {H : Hp} {a b : Addr} {xs ys : List V} {ds es : List D}
theorem itOk_pair {J : It} {items : List D} (hgo : ∀ w2 H2, Ltr w H w2 H2 → ∀ i d, items[i]? = some d → ∃ x y dx dy, J.go i H2 ∧ d = .tup [dx, dy] ∧ Rep K w2 H2 x dx ∧ Rep K w2 H2 y dy ∧ ∀ v H3, J.yld i H2 v H3 → ∃ T, v = .ref T ∧ H2 T = none ∧ H3 = upd H2 T (.tup [x, y]))
    (hst : ∀ w2 H2, Ltr w H w2 H2 → J.stop items.length H2) : ItOk K J items w H := fun w2 H2 l => by
  refine ⟨fun i d e => ?_, hst w2 H2 l⟩
  obtain ⟨x, y, dx, dy, g, ed, r1, r2, hy⟩ := hgo w2 H2 l i d e
  refine ⟨g, fun v H3 h S σ R => ?_⟩
  obtain ⟨T, rfl, nT, rfl⟩ := hy v H3 h
  obtain ⟨R1, s1⟩ := R.laidF (o := .tup [x, y]) nT
  subst ed
  have l1 := s1.ltr R
  exact ⟨_, s1, R1, .tup (.inl ⟨.inr rfl, upd_same⟩) (.cons (r1.later l1) (.cons (r2.later l1) .nil))⟩
theorem itOk_zip (h1 : FzL w H a xs) (q1 : Reps K w H xs ds) (h2 : FzL w H b ys) (q2 : Reps K w H ys es) : ItOk K (Itz K a b) (zipD ds es) w H := by
  refine itOk_pair (fun w2 H2 l i d e => ?_) fun w2 H2 l => ?_
  · obtain ⟨da, db, e1, e2, ed⟩ := zipD_get e
    obtain ⟨x, ex, rx⟩ := q1.get e1
    obtain ⟨y, ey, ry⟩ := q2.get e2
    have s1 : SqL K H2 a xs := FzL.sq (h1.later l)
    have s2 : SqL K H2 b ys := FzL.sq (h2.later l)
    refine ⟨x, y, da, db, ⟨xs, ys, x, y, s1, s2, ex, ey⟩, ed, rx.later l, ry.later l, fun v H3 hy => ?_⟩
    obtain ⟨T, x', y', ev, nT, eH, f1, f2⟩ := hy
    have := f1 xs s1
    rw [ex] at this; cases this
    have := f2 ys s2
    rw [ey] at this; cases this
    exact ⟨T, ev, nT, eH⟩
  · refine ⟨xs, ys, FzL.sq (h1.later l), FzL.sq (h2.later l), ?_⟩
    rw [zipD_len, q1.length, q2.length]
    omega
theorem itOk_zipT (h1 : FzT K w H a xs) (q1 : Reps K w H xs ds) (h2 : FzT K w H b ys) (q2 : Reps K w H ys es) : ItOk K (RZ.ItzT K a b) (zipD ds es) w H := by
  refine itOk_pair (fun w2 H2 l i d e => ?_) fun w2 H2 l => ?_
  · obtain ⟨da, db, e1, e2, ed⟩ := zipD_get e
    obtain ⟨x, ex, rx⟩ := q1.get e1
    obtain ⟨y, ey, ry⟩ := q2.get e2
    have s1 : SqT K H2 a xs := FzT.sq (h1.later l)
    have s2 : SqT K H2 b ys := FzT.sq (h2.later l)
    refine ⟨x, y, da, db, ⟨xs, ys, x, y, s1, s2, ex, ey⟩, ed, rx.later l, ry.later l, fun v H3 hy => ?_⟩
    obtain ⟨T, x', y', ev, nT, eH, f1, f2⟩ := hy
    have := f1 xs s1
    rw [ex] at this; cases this
    have := f2 ys s2
    rw [ey] at this; cases this
    exact ⟨T, ev, nT, eH⟩
  · refine ⟨xs, ys, FzT.sq (h1.later l), FzT.sq (h2.later l), ?_⟩
    rw [zipD_len, q1.length, q2.length]
    omega
theorem itOk_enum (h1 : FzL w H a xs) (q1 : Reps K w H xs ds) : ItOk K (Ite K a) (enumD 0 ds) w H := by
  refine itOk_pair (fun w2 H2 l i d e => ?_) fun w2 H2 l => ?_
  · obtain ⟨da, e1, ed⟩ := enumD_get e
    obtain ⟨x, ex, rx⟩ := q1.get e1
    have s1 : SqL K H2 a xs := FzL.sq (h1.later l)
    refine ⟨.int (i : Nat), x, _, da, ⟨xs, x, s1, ex⟩, ed, by rw [Nat.zero_add]; exact .int _, rx.later l, fun v H3 hy => ?_⟩
    obtain ⟨T, x', ev, nT, eH, f1⟩ := hy
    have := f1 xs s1
    rw [ex] at this; cases this
    exact ⟨T, ev, nT, eH⟩
  · exact ⟨xs, FzL.sq (h1.later l), by rw [enumD_len, q1.length]; exact Nat.le_refl _⟩
end
section
variable {X : Cx} {W : WX} {e e2 : Expr} {fe : M DV} {f : M (List D)} {p pos tpos : Pos} {elts : List Expr} {kk : Nat}
theorem di_zip (hg : Gl X "zip") (hm : X.mg "zip" = none) (ha : DA X W [e, e2] f) (hs : St2 X e e2 := by rfl) (hpl : (backTo pos (starEach [e2] X.env)).any (·.1) = false := by rfl) : DI X W (.Tuple elts kk tpos) (.Call (.Name "zip" p) [e, e2] [] pos) (iZip f) := by
  refine pi_imp (RZ.pi_zipA hg hm ha hs hpl) fun σ H R hw => ?_
  obtain ⟨w, S, RR, h⟩ := hw
  refine ⟨w, S, RR, Res.to_imp (Res.to_bnd h) (fun ds S1 h1 => ?_) fun _ _ z => z⟩
  intro w1 vs H1 s1 R1 q1
  split at h1
  · obtain ⟨x, y, rfl, r1, r2⟩ := q1.two
    obtain ⟨a, xs, rfl, f1, u1⟩ := r1.sqL
    obtain ⟨b, ys, rfl, f2, u2⟩ := r2.sqL
    exact ⟨a, b, xs, ys, rfl, .inl ⟨FzL.sq f1, FzL.sq f2, h1 _ _ _ s1 R1 (itOk_zip f1 u1 f2 u2)⟩⟩
  · obtain ⟨x, y, rfl, r1, r2⟩ := q1.two
    obtain ⟨a, xs, rfl, f1, u1⟩ := r1.sqT
    obtain ⟨b, ys, rfl, f2, u2⟩ := r2.sqT
    exact ⟨a, b, xs, ys, rfl, .inr ⟨f1.sq, f2.sq, h1 _ _ _ s1 R1 (itOk_zipT f1 u1 f2 u2)⟩⟩
  · exact h1.elim
theorem di_enum (hg : Gl X "enumerate") (hm : X.mg "enumerate" = none) (ha : DE X W e fe) (hs : starEach [e] X.env = [(false, eval e X.env)] := by rfl) : DI X W (.Tuple elts kk tpos) (.Call (.Name "enumerate" p) [e] [] pos) (iEnum fe) := by
  refine pi_imp (pi_enum (ta := tCons (tD X.K W fe) tNil) hg hm (pa_cons ha pa_nil (by rw [hs]; rfl)) hs) fun σ H R hw => ?_
  obtain ⟨w, S, RR, h⟩ := hw
  refine ⟨w, S, RR, Res.to_imp (Res.to_bnd h) (fun dv S1 h1 => ?_) fun _ _ z => z⟩
  intro w1 v H1 s1 R1 x1
  obtain ⟨w1', R1', rp, _, st⟩ := x1.frz R1
  cases e1 : dv.fz with
  | lst ds =>
    rw [e1] at h1 rp
    obtain ⟨a, xs, e2, h2, q⟩ := rp.sqL
    subst e2
    exact ⟨a, xs, rfl, FzL.sq h2, h1 _ _ _ (st _ _ _ s1) R1' (itOk_enum h2 q)⟩
  | _ => rw [e1] at h1; exact h1.elim
/-- list(range(..)) -/
def mLstRg (f : M (List D)) : M DV := fun S => (f S).bnd fun ds S1 => if ds.length ≤ 2 ^ 24 then .ok (.new (.lst ds)) S1 else .stk
theorem rg_len (lo : Int) (n : Nat) : (rgD lo n).length = n := by simp [rgD]
theorem Reps.rgV {K : PySem.W.Frag} {w : Wd} {H : Hp} (a b : Int) : Reps K w H (rgV a b) (rgD a (b - a).toNat) := by
  unfold L2.rgV rgD
  have key : ∀ l : List Nat, Reps K w H (l.map fun i => V.int (a + (i : Nat))) (l.map fun i => D.int (a + (i : Nat))) := fun l => by
    induction l with
    | nil => exact .nil
    | cons n l ih => exact .cons (.int _) ih
  exact key _
theorem de_lrg1 {b : Expr} {fb : M DV} {p' : Pos} (hc : X.calm = true) (hgl : Gl X "list") (hml : X.mg "list" = none) (hg : Gl X "range") (hm : X.mg "range" = none) (hb : DE X W b fb) (nb : St1 X b := by rfl) (na : St1 X (.Call (.Name "range" p) [b] [] pos) := by rfl) :
    DE X W (.Call (.Name "list" p') [.Call (.Name "range" p) [b] [] pos] [] tpos) (mLstRg (iRg1 fb)) := by
  refine pe_imp (pe_listRg hc hgl hml (prg_1 hg hm hb nb) na) fun σ H Q hw => ?_
  obtain ⟨w, S, R, h⟩ := hw
  have h' := Res.to_bnd h
  unfold iRg1 at h'
  refine ⟨w, S, R, Res.to_imp (Res.to_bnd h') (fun dv S1 h1 => ?_) fun _ _ z => z⟩
  intro w1 v H1 s1 R1 x1
  have q := x1.rq
  cases e1 : dv.fz with
  | int j =>
    rw [e1] at h1 q
    have e2 := q.int
    subst e2
    dsimp only at h1
    split at h1
    · rename_i hb
      have h1' : (if (rgD 0 j.toNat).length ≤ 2 ^ 24 then Res.ok (DV.new (.lst (rgD 0 j.toNat))) S1 else .stk).to (okD X.K w S.r σ H Q) (exW X.K W w S.r σ H) := h1
      split at h1'
      · rename_i hl
        rw [rg_len] at hl
        refine ⟨j, rfl, ⟨by omega, by omega, hb.1, hb.2, by rw [Int.sub_zero]; exact hl⟩, ?_⟩
        have r := Reps.rgV (K := X.K) (w := w1) (H := H1) 0 j
        rw [Int.sub_zero] at r
        exact newLst R1 r (okD.later s1 h1')
      · exact h1'.elim
    · exact h1.elim
  | _ => rw [e1] at h1; exact h1.elim
theorem de_lrg2 {a b : Expr} {fa fb : M DV} {p' : Pos} (hc : X.calm = true) (hgl : Gl X "list") (hml : X.mg "list" = none) (hg : Gl X "range") (hm : X.mg "range" = none) (ha : DE X W a fa) (hb : DE X W b fb) (nab : St2 X a b := by rfl) (nb : St1 X b := by rfl) (hpp : (backTo pos (starEach [b] X.env)).any (·.1) = false := by rfl) (na : St1 X (.Call (.Name "range" p) [a, b] [] pos) := by rfl) :
    DE X W (.Call (.Name "list" p') [.Call (.Name "range" p) [a, b] [] pos] [] tpos) (mLstRg (iRg2 fa fb)) := by
  refine pe_imp (pe_listRg hc hgl hml (prg_2 hg hm ha hb nab nb hpp) na) fun σ H Q hw => ?_
  obtain ⟨w, S, R, h⟩ := hw
  have h' := Res.to_bnd h
  unfold iRg2 at h'
  refine ⟨w, S, R, Res.to_imp (Res.to_bnd h') (fun dv S1 h1 => ?_) fun _ _ z => z⟩
  intro w1 v H1 s1 R1 x1
  refine ⟨w1, S1, R1, Res.to_imp (Res.to_bnd h1) (fun dv2 S2 h2 => ?_) fun _ _ z => z.later s1⟩
  intro w2 u H2 s2 R2 x2
  have q1 := (x1.later R1 s2).rq
  have q2 := x2.rq
  cases e1 : dv.fz with
  | int i =>
    cases e2 : dv2.fz with
    | int j =>
      rw [e1] at q1
      rw [e2] at q2
      rw [e1, e2] at h2
      have e3 := q1.int
      have e4 := q2.int
      subst e3
      subst e4
      dsimp only at h2
      split at h2
      · rename_i hb
        have h1' : (if (rgD i (j - i).toNat).length ≤ 2 ^ 24 then Res.ok (DV.new (.lst (rgD i (j - i).toNat))) S2 else .stk).to (okD X.K w S.r σ H Q) (exW X.K W w S.r σ H) := h2
        split at h1'
        · rename_i hl
          rw [rg_len] at hl
          refine ⟨i, j, rfl, rfl, ⟨hb.1.1, hb.1.2, hb.2.1, hb.2.2, hl⟩, ?_⟩
          exact newLst R2 (Reps.rgV i j) (okD.later (s1.trans s2) h1')
        · exact h1'.elim
      · exact h2.elim
    | _ => rw [e1, e2] at h2; exact h2.elim
  | _ => rw [e1] at h2; exact h2.elim
end
end DL
namespace DL
open PySem PySem.Spec PyProof.Rows L2
/-! ### a < b < c -/
def asB : Option DV → Option Bool
  | some (.val (.bl k)) => some k
  | _ => none
def mChain (g g' : List Ob → D → D → Option DV) (a b c : M DV) : M DV := fun S => (a S).bnd fun x S1 => (b S1).bnd fun y S2 => match asB (g S2.m x.fz y.fz) with
  | some true => (c S2).bnd fun z S3 => oRes (g' S3.m y.fz z.fz) S3
  | some false => .ok (.val (.bl false)) S2
  | none => .stk
section
variable {X : Cx} {W : WX} {e a b c : Expr} {fa fb fc : M DV} {rr rr' : R2} {g g' : List Ob → D → D → Option DV} {σ : Sg} {H : Hp} {Q : VK} {pos : Pos}
theorem asB_some {o : Option DV} {k : Bool} (h : asB o = some k) : o = some (.val (.bl k)) := by
  unfold asB at h
  split at h
  · cases h; rfl
  · cases h
theorem red_chain (o : O2 X rr g) (o' : O2 X rr' g') (h : tD X.K W (mChain g g' fa fb fc) σ H Q) : tChain rr rr' (tD X.K W fa) (tD X.K W fb) (tD X.K W fc) σ H Q := by
  obtain ⟨w, S, R, h⟩ := h
  refine ⟨w, S, R, Res.to_imp (Res.to_bnd h) (fun x S1 h1 => ?_) fun _ _ z => z⟩
  intro w1 v H1 s1 R1 x1
  refine ⟨w1, S1, R1, Res.to_imp (Res.to_bnd h1) (fun y S2 h2 => ?_) fun _ _ z => z.later s1⟩
  intro w2 u H2 s2 R2 x2
  have e0 : ∀ k, asB (g S2.m x.fz y.fz) = some k → (∀ Q', okD X.K w2 S2.r σ H2 Q' (.val (.bl k)) S2 → rr v u H2 Q') := fun k e Q' q => o w2 S2 σ H2 v u x.fz y.fz _ Q' R2 (x1.later R1 s2).rq x2.rq (asB_some e) q
  cases e1 : asB (g S2.m x.fz y.fz) with
  | none => simp only [e1] at h2; exact h2.elim
  | some k =>
    simp only [e1] at h2
    refine e0 k e1 _ ?_
    intro w3 z H3 s3 R3 x3
    have ez := rv_bl x3
    refine ⟨k, ez, ?_⟩
    cases k with
    | false =>
      rw [if_neg (by decide)]
      exact h2 w3 _ H3 ((s1.trans s2).trans s3) R3 (Rep.bl _)
    | true =>
      rw [if_pos rfl]
      refine ⟨w3, S2, R3, Res.to_imp (Res.to_bnd h2) (fun zz S3 h3 => ?_) fun _ _ z => z.later ((s1.trans s2).trans s3)⟩
      intro w4 zv H4 s4 R4 x4
      obtain ⟨dv, e2, h4⟩ := oRes_to h3
      refine o' w4 S3 σ H4 u zv y.fz zz.fz dv Q R4 ((x2.later R2 s3).later R3 s4).rq x4.rq e2 ?_
      intro w5 z5 H5 s5 R5 x5
      exact h4 w5 z5 H5 ((((s1.trans s2).trans s3).trans s4).trans s5) R5 (x5.start (((s1.trans s2).trans s3).trans s4))
theorem de_chain {op op' : CmpOp} (ho : OpR X (compareOp op) rr) (ho' : OpR X (compareOp op') rr') (o : O2 X rr g) (o' : O2 X rr' g') (ha : DE X W a fa) (hb : DE X W b fb) (hc : DE X W c fc)
    (hm : lastMarks [op, op'] [b, c] = false := by with_unfolding_all rfl) : DE X W (.Compare a [op, op'] [b, c] pos) (mChain g g' fa fb fc) :=
  pe_imp (pe_chain ho ho' ha hb hc hm) fun _ _ _ h => red_chain o o' h
theorem dt_chain {op op' : CmpOp} (ho : OpR X (compareOp op) rr) (ho' : OpR X (compareOp op') rr') (o : O2 X rr g) (o' : O2 X rr' g') (ha : DE X W a fa) (hb : DE X W b fb) (hc : DE X W c fc)
    (hm : lastMarks [op, op'] [b, c] = false := by with_unfolding_all rfl) : DT X W (.Compare a [op, op'] [b, c] pos) (mB (mChain g g' fa fb fc)) :=
  dt_of (pt_imp (pt_chain ho ho' ha hb hc hm) fun _ _ _ h => red_chain o o' h)
/-! ### globals -/
theorem de_gint {x : Str} {i : Int} {p : Pos} (hg : Gl X x) (hm : ∃ t, X.mg x = some (.int i t)) (hd : (x == ("__debug__" : Str)) = false := by decide) : DE X W (.Name x p) (mC (.int i)) := by
  obtain ⟨t, hm⟩ := hm
  exact de_c (pe_glob (v := .int i) hg hm ⟨t, rfl⟩ hd) fun _ _ => .int i
theorem de_gstr {x : Str} {i : Str} {p : Pos} (hg : Gl X x) (hm : ∃ t, X.mg x = some (.str i t)) (hd : (x == ("__debug__" : Str)) = false := by decide) : DE X W (.Name x p) (mC (.str i)) := by
  obtain ⟨t, hm⟩ := hm
  exact de_c (pe_glob (v := .str i) hg hm ⟨t, rfl⟩ hd) fun _ _ => .str i
theorem de_gref {x : Str} {p : Pos} (hg : Gl X x) (hm : X.mg x = some (.ref (He.ga X.K x))) (hd : (x == ("__debug__" : Str)) = false := by decide) : DE X W (.Name x p) (mC (.gl x)) :=
  de_c (pe_glob (v := .ref (He.ga X.K x)) hg hm rfl hd) fun _ _ => .gl x
theorem de_ty {x : Str} {n : String} {p : Pos} (hg : Gl X x) (hm : X.mg x = none) (hv : bootBuiltins x = some (.type n)) (hn : x ≠ "__name__" := by decide) (hd : (x == ("__debug__" : Str)) = false := by decide) : DE X W (.Name x p) (mC (.ty n)) :=
  de_c (pe_bltn (v := .ty n) hg hm hv rfl hn hd) fun _ _ => .ty n
/-! ### len of any -/
def fLenA : List Ob → D → Option DV := fun _ x => match x with
  | .str z => if z.length ≤ sizeLine then some (.val (.int z.length)) else none
  | .tup l => some (.val (.int l.length))
  | .lst l => some (.val (.int l.length))
  | .dic l => some (.val (.int l.length))
  | .frl l => some (.val (.int l.length))
  | _ => none
def rLenA (K : PySem.W.Frag) : List V → Hp → VK → Prop := fun xs H Q => (∃ x n, xs = [x] ∧ LenV K x H n ∧ Q (.int n) H) ∨ ∃ a kvs, xs = [V.ref a] ∧ H a = some (.dK kvs) ∧ Q (.int kvs.length) H
theorem cr_lenA : CallR X (.builtin "len") (rLenA X.K) := CallR.or call_len call_lenD
theorem oq_lenA : OCq X (rLenA X.K) fLenA := fun w S σ H x a dv Q R q e h3 => by
  unfold fLenA at e
  split at e
  · exact .inl (oq_len w S σ H x _ dv Q R q e h3)
  · exact .inl (oq_len w S σ H x _ dv Q R q e h3)
  · exact .inl (oq_len w S σ H x _ dv Q R q e h3)
  · exact .inr (oq_lenD w S σ H x _ dv Q R q e h3)
  · cases e
    obtain ⟨p, xs, ex, h1, r1⟩ := q.frl
    subst ex
    rw [← r1.length] at h3
    exact .inl ⟨_, _, rfl, .inl ⟨xs, h1, rfl⟩, h3.here R (.int _)⟩
  · cases e
/-! ### 'x'.join(l) -/
def fJoin : List Ob → D → D → Option DV := fun _ x y => match x, y with
  | .str a, .lst l => (strsD l).bind fun ys => if (ys.map (·.length)).sum + ys.length * a.length ≤ 16777216 then some (.val (.str (Txt.join a ys))) else none
  | .str a, .tup l => (strsD l).bind fun ys => if (ys.map (·.length)).sum + ys.length * a.length ≤ 16777216 then some (.val (.str (Txt.join a ys))) else none
  | _, _ => none
def rJoin (K : PySem.W.Frag) : R2 := fun x y H Q => (∃ a, x = V.str a) ∧ ∃ a p, ∃ ys : List Str, x = .str a ∧ [y] = [V.ref p] ∧ (SqL K H p (ys.map V.str) ∨ SqT K H p (ys.map V.str)) ∧
      (ys.map (·.length)).sum + ys.length * a.length ≤ 16777216 ∧ Q (.str (Txt.join a ys)) H
theorem o_join : O2 X (rJoin X.K) fJoin := fun w S σ H x y a b dv Q R qa qb e h3 => by
  unfold fJoin at e
  split at e
  · rename_i z l
    obtain ⟨ys, e1, e⟩ := Option.bind_eq_some_iff.mp e
    split at e
    · cases e
      obtain ⟨p, xs, ex, h1, r1⟩ := qb.lst
      rw [strsD_eq e1] at r1
      have := r1.strs
      subst this ex
      have := qa.str
      subst this
      exact ⟨⟨_, rfl⟩, z, p, ys, rfl, rfl, .inl (SqL.of h1), by assumption, h3.here R (.str _)⟩
    · cases e
  · rename_i z l
    obtain ⟨ys, e1, e⟩ := Option.bind_eq_some_iff.mp e
    split at e
    · cases e
      obtain ⟨p, xs, ex, h1, r1⟩ := qb.tup
      rw [strsD_eq e1] at r1
      have := r1.strs
      subst this ex
      have := qa.str
      subst this
      exact ⟨⟨_, rfl⟩, z, p, ys, rfl, rfl, .inr h1, by assumption, h3.here R (.str _)⟩
    · cases e
  · cases e
/-- a method of a text, one argument -/
def mM1 (g : List Ob → D → D → Option DV) (a b : M DV) : M DV := fun S => (a S).bnd fun x S1 => match x.fz with
  | .str z => (b S1).bnd fun y S2 => oRes (g S2.m (.str z) y.fz) S2
  | _ => .stk
theorem de_join {o : Expr} {fo fe : M DV} {apos pos : Pos} (ho : DE X W o fo) (he : DE X W e fe) (hs : starEach [e] X.env = [(false, eval e X.env)] := by rfl) (hbase : attributeBase o "join" X.env (eval o X.env) = eval o X.env := by rfl) (hline : (apos.endLine == pos.line) = true := by rfl) :
    DE X W (.Call (.Attribute o "join" apos) [e] [] pos) (mM1 fJoin fo fe) := by
  refine pe_imp (pe_join ho he hs hbase hline) fun σ H Q h => ?_
  obtain ⟨w, S, R, h⟩ := h
  refine ⟨w, S, R, Res.to_imp (Res.to_bnd h) (fun x S1 h1 => ?_) fun _ _ z => z⟩
  intro w1 v H1 s1 R1 x1
  cases ex : x.fz with
  | str z =>
    simp only [ex] at h1
    have q1 := x1.rq
    rw [ex] at q1
    have ev := q1.str
    refine ⟨⟨z, ev⟩, w1, S1, R1, Res.to_imp (Res.to_bnd h1) (fun y S2 h2 => ?_) fun _ _ z => z.later s1⟩
    intro w2 u H2 s2 R2 x2
    obtain ⟨dv, e1, h3⟩ := oRes_to h2
    have q2 := (x1.later R1 s2).rq
    rw [ex] at q2
    refine (o_join (X := X) w2 S2 σ H2 v u (.str z) y.fz dv Q R2 q2 x2.rq e1 ?_).2
    intro w3 z H3 s3 R3 x3
    exact h3 w3 z H3 ((s1.trans s2).trans s3) R3 (x3.start (s1.trans s2))
  | _ => simp only [ex] at h1; exact h1.elim
/-! ### x in l -/
def flatD : D → Bool
  | .non => true
  | .bl _ => true
  | .int _ => true
  | .str _ => true
  | _ => false
end
/-! ### the law's end -/
section
variable {P : Program} {w : World} {K : PySem.W.Frag} {mg mb : Str → Option Value} {k : Nat} {fa a : Addr} {fd : FuncData} {x : Str} {F : Fun} {s₁ : Shared} {vs : List Value} {ns : List Int}
/-- the script alone is known -/
structure Alone (K : PySem.W.Frag) (H : Hp) (h : Heap) (a : Addr) (ns : List Int) (wd : Wd) : Prop where
  only : ∀ b, H b ≠ none → b = a ∧ ∃ o xs, H b = some (.frz o (.lst xs)) ∧ K.lookup a = none
  rep : Rep K wd H (.ref a) (.frl (ns.map D.int))
  fr : ∀ b, wd.F b → H b ≠ none
  no : wd.L = []
theorem law_run {H : Hp} {wd : Wd} {m : List Ob} (KX : K.In s₁.heap) (hns : s₁.heap.Ns mainGlobals mg) (hb : s₁.heap.Ns builtinsNs mb) (hbb : ∀ x : Str, x ≠ "__name__" → mb x = bootBuiltins x) (hlim : s₁.heap.NoLimit) (hg : s₁.gens = #[])
    (ha : s₁.heap.get? a = some { cls := .type "list", data := .seq vs.toArray }) (hr : Room k callerA) (G : ∀ base : Heap, K.In base → base.Ns mainGlobals mg → FnG P w K mg base k fa fd [x] F) (hbind : ∀ (s : Shared) (u : Value), BindsTo s fd ⟨[u], []⟩ [(x, u)])
    (hF : F [.frl (ns.map D.int)] [] = .ok (.val (.bl true)) m) (Al : Alone K H s₁.heap a ns wd) (hok : HOk P w H s₁.heap) :
    codeAny (model P w) callerA (.call (.ref fa) ⟨[.ref a], []⟩) (fun r s' => r = .ok (.ret (.bool true)) ∧ OldK s₁.heap s'.heap ∧ s'.os = s₁.os ∧ AllBare s'.gens) s₁ := by
  have free : ∀ {b : Addr} {o : Obj}, s₁.heap.get? b = some o → (b = a → H b = none) → H b = none := fun {b o} _ f => Classical.byContradiction fun n => n (f (Al.only b n).1)
  have notSeq : ∀ {b : Addr} {o : Obj} {es : Array DictEntry} {ep : Nat}, s₁.heap.get? b = some o → o.data = .dict es ep → H b = none := fun {b o es ep} e d => Classical.byContradiction fun n => by
    rw [(Al.only b n).1, ha] at e
    cases e
    exact nomatch (show Data.seq vs.toArray _ = Data.dict es ep from d)
  have nsB : ∀ {b : Addr} {f : Str → Option Value}, s₁.heap.Ns b f → (hidT s₁.heap H).Ns b f := fun z => by
    obtain ⟨o, es, ep, e, d, r⟩ := z
    exact ⟨o, es, ep, hidT_get e (notSeq e d), d, r⟩
  have inB : K.In (hidT s₁.heap H) := fun b o e => hidT_get (KX b o e) (Classical.byContradiction fun n => by
    obtain ⟨e1, _, _, _, e2⟩ := Al.only b n
    rw [e1, e2] at e
    cases e)
  obtain ⟨ml, l1, l2⟩ := hlim
  have env : Env0 P w K mg (hidT s₁.heap H) callerA [] s₁ H := {
    frames := rfl, mod := ⟨inB, nsB hns, ⟨mb, nsB hb, hbb⟩, ⟨ml, nsB l1, l2⟩⟩, bs := fun b o e => of_hidT e, bsz := Nat.le_of_eq (hidT_size _ _), funs := trivial,
    frf := fun b z => absurd z (by intro z; cases z), hok := hok, bare := .of_eq hg }
  have R : Rel K wd ⟨[], []⟩ [] H := {
    len := rfl, sl := fun i d e => by simp at e, ow := fun i o e => by simp at e, inj := fun i j o o' b e => by simp at e, ml := by rw [Al.no]; rfl, mu := fun n o e => by simp at e,
    nd := by rw [Al.no]; exact List.nodup_nil, fd := Al.fr }
  refine codeAny_mono ((G _ inB (nsB hns)).run callerA [] s₁ H ⟨[.ref a], []⟩ [.ref a] [.ref a] (fun v _ => v = .bl true) (fun _ _ _ => False) wd [] _ hr rfl env (hbind s₁ (.ref a)) (.cons rfl .nil) rfl R (.cons Al.rep .nil) (by rw [hF]; exact fun w' v H' _ _ z => by cases z; rfl)) fun r s' h => ?_
  match r, h with
  | .ok (.ret u), ⟨v, H', os, bare, un, hok', r', q⟩ =>
    have q' : v = .bl true := q
    subst q'
    obtain rfl : u = Value.bool true := r'
    refine ⟨rfl, OldK.of_keep fun b o e => ?_, os, bare⟩
    by_cases n : H b = none
    · exact un.keep b o e n (by intro z; cases z) (by simp)
    · obtain ⟨_, ob, xs, z, _⟩ := Al.only b n
      have e1 := (hok b _ z).1
      have e2 := (hok' b _ (un.frzs b ob _ z)).1
      rw [e] at e1
      cases e1
      exact e2
  | .ok .next, h => exact False.elim h
  | .ok .brk, h => exact False.elim h
  | .ok .cont, h => exact False.elim h
  | .error e, h =>
    obtain ⟨_, _, _, _, _, _, _, _, _, _, _, _, h⟩ := h
    exact h.elim
theorem law_end {m : List Ob} (KX : K.In s₁.heap) (hns : s₁.heap.Ns mainGlobals mg) (hb : s₁.heap.Ns builtinsNs mb) (hbb : ∀ x : Str, x ≠ "__name__" → mb x = bootBuiltins x) (hlim : s₁.heap.NoLimit) (hg : s₁.gens = #[])
    (ha : s₁.heap.get? a = some { cls := .type "list", data := .seq vs.toArray }) (hi : IntsAre vs ns) (hl : ns.length ≤ sizeLine) (hr : Room k callerA) (G : ∀ base : Heap, K.In base → base.Ns mainGlobals mg → FnG P w K mg base k fa fd [x] F) (hbind : ∀ (s : Shared) (u : Value), BindsTo s fd ⟨[u], []⟩ [(x, u)])
    (hF : F [.frl (ns.map D.int)] [] = .ok (.val (.bl true)) m) :
    codeAny (model P w) callerA (.call (.ref fa) ⟨[.ref a], []⟩) (fun r s' => r = .ok (.ret (.bool true)) ∧ OldK s₁.heap s'.heap ∧ s'.os = s₁.os ∧ AllBare s'.gens) s₁ := by
  have rv := vals_ints hi
  have len := hi.length
  cases e : K.lookup a with
  | some o =>
    have e2 := KX a o e
    rw [ha] at e2
    cases e2
    refine law_run (H := fun _ => none) (wd := ⟨fun _ => False, []⟩) KX hns hb hbb hlim hg ha hr G hbind hF ⟨fun b n => absurd rfl n, ?_, fun b z => z.elim, rfl⟩ fun b u z => nomatch (show (none : Option HO) = some u from z)
    exact .frl (.inr ⟨_, vs.toArray, _, e, rfl, rfl, rfl, by rw [List.size_toArray, len]; exact hl, by simpa using rv⟩) (Reps.of_ints ns)
  | none =>
    have at_ : ∀ {b : Addr} {u : HO}, (if b = a then some (HO.frz { cls := .type "list", data := .seq vs.toArray } (.lst (ns.map V.int))) else none) = some u → b = a ∧ u = .frz { cls := .type "list", data := .seq vs.toArray } (.lst (ns.map V.int)) := fun {b u} z => by
      by_cases hb : b = a
      · rw [if_pos hb] at z
        exact ⟨hb, (Option.some.inj z).symm⟩
      · rw [if_neg hb] at z
        cases z
    refine law_run (H := fun b => if b = a then some (.frz { cls := .type "list", data := .seq vs.toArray } (.lst (ns.map V.int))) else none) (wd := ⟨fun b => b = a, []⟩) KX hns hb hbb hlim hg ha hr G hbind hF ⟨fun b n => ?_, ?_, fun b z => ?_, rfl⟩ fun b u z => ?_
    · cases z : (if b = a then some (HO.frz { cls := .type "list", data := .seq vs.toArray } (.lst (ns.map V.int))) else none) with
      | none => exact absurd z n
      | some u =>
        obtain ⟨h1, h2⟩ := at_ z
        subst h2
        exact ⟨h1, _, _, rfl, e⟩
    · exact .frl (.inl ⟨rfl, _, if_pos rfl⟩) (Reps.of_ints ns)
    · rw [if_pos (show b = a from z)]
      exact fun z => nomatch z
    · obtain ⟨h1, h2⟩ := at_ z
      subst h1 h2
      exact ⟨ha, by rw [List.length_map]; exact hl, vs, _, rv, ha⟩
end
/-- a law: by the head's facts and its def's function -/
theorem walk_ofD {l : PySem.W.OpenLaw} {n k : Nat} {q : Program} {loose : List Str} {XP : (Str → Option Value) → Heap → Prop} {YP : World → Heap → Prop} {d : DefRec} {x : Str} {F : Fun}
    (hn : l.most = some n) (hn2 : n ≤ sizeLine) (hdf : d.params.defaults = []) (hr : Room k callerA)
    (hF : ∀ ns : List Int, ns.length ≤ n → (∀ z ∈ ns, Builtin.Int.intBits z ≤ 1048576) → ∃ m, F [.frl (ns.map D.int)] [] = .ok (.val (.bl true)) m)
    (G : ∀ (w : World) (mg : Str → Option Value) (fa : Addr) (h : Heap), YP w h → h.Ns mainGlobals mg → mg d.name = some (.ref fa) →
      ∃ (K : PySem.W.Frag) (fd : FuncData), K.In h ∧ (∀ (s : Shared) (u : Value), BindsTo s fd ⟨[u], []⟩ [(x, u)]) ∧ ∀ base : Heap, K.In base → base.Ns mainGlobals mg → FnG l.prog w K mg base k fa fd [x] F) :
    PySem.W.WalkO q loose XP YP l.row.toRowW d [] (fun f vs => PySem.call f vs) := by
  refine Att.attach_callB hn hdf fun w s₀ s₁ mg mb fa o pm cd doc a vs ns G' Y ho hd hcd hmg hobj hints hlen hbits hg => ?_
  obtain ⟨K, fd, KX, hb, hG⟩ := G w mg fa _ Y G'.T.g hmg
  obtain ⟨m, e⟩ := hF ns hlen hbits
  exact law_end KX G'.T.g G'.T.b G'.T.builtins G'.T.nolimit hg hobj hints (Nat.le_trans hlen hn2) hr hG hb e
end DL
namespace DL
open PySem PySem.Spec PyProof.Rows L2
/-! ### a list that many know -/
section
variable {K : PySem.W.Frag} {w : Wd} {S : Sta} {σ : Sg} {H : Hp}
theorem newLoc {xs : List V} {ds : List D} {Q : VK} (R : Rel K w S σ H) (r : Reps K w H xs ds) (h : okD K w S.r σ H Q (.val (.loc S.m.length)) ⟨S.r, S.m ++ [.lst ds]⟩) (p : Addr) (np : H p = none) : Q (.ref p) (L2.upd H p (.lst xs)) := by
  obtain ⟨R1, s1⟩ := R.laid (o := .lst xs) np
  have hp : p ∉ w.L := fun z => R.newO np (.inl z)
  have at_ : (w.L ++ [p])[S.m.length]? = some p := by rw [R.ml]; simp
  have lt : Ltr w (L2.upd H p (.lst xs)) ⟨w.F, w.L ++ [p]⟩ (L2.upd H p (.lst xs)) := ⟨fun _ f => f, List.prefix_append _ _, fun _ _ _ e => e⟩
  refine h ⟨w.F, w.L ++ [p]⟩ (.ref p) _ ?st ?rel (.loc at_)
  case st =>
    refine ⟨s1.kp, fun a z => ?_, fun a z => .inl z, fun a z => z, List.prefix_append _ _, s1.dm⟩
    rcases z with z | z
    · rcases List.mem_append.mp z with z | z
      · exact .inl (.inl z)
      · rw [List.mem_singleton.mp z]
        exact .inr np
    · exact .inl (.inr z)
  case rel =>
    refine ⟨R.len, fun i d e => ?_, fun i o e => ?_, R.inj, ?_, fun n o e => ?_, ?_, fun a f => R1.fd a f⟩
    · obtain ⟨v, h1, h2⟩ := R1.sl i d e
      exact ⟨v, h1, h2.later lt⟩
    · obtain ⟨a, h1, h2, h3, h4⟩ := R1.ow i o e
      refine ⟨a, h1, h2.later lt (fun _ z => z), h3, fun z => ?_⟩
      rcases List.mem_append.mp z with z | z
      · exact h4 z
      · have ea := List.mem_singleton.mp z
        subst ea
        exact R.newO np (.inr ⟨i, o, e, h1⟩)
    · simp [R.ml]
    · by_cases hn : n < S.m.length
      · rw [List.getElem?_append_left hn] at e
        obtain ⟨a, h1, h2, h3⟩ := R1.mu n o e
        refine ⟨a, ?_, h2.later lt (fun _ z => z), h3⟩
        show (w.L ++ [p])[n]? = some a
        rw [List.getElem?_append_left (by rw [← R.ml]; exact hn)]
        exact h1
      · have e1 : n = S.m.length := by
          have := (List.getElem?_eq_some_iff.mp e).1
          rw [List.length_append, List.length_singleton] at this
          omega
        subst e1
        rw [List.getElem?_append_right (Nat.le_refl _), Nat.sub_self] at e
        cases e
        refine ⟨p, at_, ⟨xs, L2.upd_same .., r.later ((Ltr.upd R np).trans lt)⟩, R.newF np⟩
    · show (w.L ++ [p]).Nodup
      rw [List.nodup_append]
      exact ⟨R.nd, by simp, fun a z b hb e => hp (by rw [List.mem_singleton.mp hb] at e; rw [← e]; exact z)⟩
end
def mLoc (f : M (List D)) : M DV := fun S => (f S).bnd fun ds S1 => if ds.length ≤ sizeLine then .ok (.val (.loc S1.m.length)) ⟨S1.r, S1.m ++ [.lst ds]⟩ else .stk
section
variable {X : Cx} {W : WX} {es : List Expr} {f : M (List D)} {pos : Pos}
theorem de_loc (h : DA X W es f) : DE X W (.List es pos) (mLoc f) := by
  refine pe_imp (pe_lst h) fun σ H Q hq => ?_
  obtain ⟨w, S, R, h⟩ := hq
  refine ⟨w, S, R, Res.to_imp (Res.to_bnd h) (fun ds S1 h1 => ?_) fun _ _ z => z⟩
  intro w1 vs H1 s1 R1 q1
  by_cases hl : ds.length ≤ sizeLine
  · rw [if_pos hl] at h1
    refine ⟨by rw [q1.length]; exact hl, fun p np => newLoc R1 q1 (okD.later s1 h1) p np⟩
  · rw [if_neg hl] at h1
    exact h1.elim
end
/-! ### short names -/
section
variable {X : Cx} {W : WX} {a b c : Expr} {fa fb fc : M DV} {i : Nat} {pos : Pos}
theorem d_add (ha : DE X W a fa) (hb : DE X W b fb) : DE X W (.BinOp a .Add b pos) (mOp2 fOpAdd fa fb) := de_op2 (fun _ _ x y => pe_op op_addD x y) o_add ha hb
theorem d_addL (ha : PE X a (tVar i)) (hb : DE X W b fb) : DE X W (.BinOp a .Add b pos) (mOp2L fOpAdd i fb) := de_op2L (fun _ y => pe_op op_addD ha y) o_add hb
theorem d_sub (ha : DE X W a fa) (hb : DE X W b fb) : DE X W (.BinOp a .Sub b pos) (mOp2 fOpSub fa fb) := de_op2 (fun _ _ x y => pe_op op_sub x y) o_sub ha hb
theorem d_subL (ha : PE X a (tVar i)) (hb : DE X W b fb) : DE X W (.BinOp a .Sub b pos) (mOp2L fOpSub i fb) := de_op2L (fun _ y => pe_op op_sub ha y) o_sub hb
theorem d_mul (ha : DE X W a fa) (hb : DE X W b fb) : DE X W (.BinOp a .Mult b pos) (mOp2 fOpMul fa fb) := de_op2 (fun _ _ x y => pe_op op_mulD x y) o_mul ha hb
theorem d_mulL (ha : PE X a (tVar i)) (hb : DE X W b fb) : DE X W (.BinOp a .Mult b pos) (mOp2L fOpMul i fb) := de_op2L (fun _ y => pe_op op_mulD ha y) o_mul hb
theorem d_div (ha : DE X W a fa) (hb : DE X W b fb) : DE X W (.BinOp a .FloorDiv b pos) (mOp2 fOpDiv fa fb) := de_op2 (fun _ _ x y => pe_op op_fdivD x y) o_div ha hb
theorem d_divL (ha : PE X a (tVar i)) (hb : DE X W b fb) : DE X W (.BinOp a .FloorDiv b pos) (mOp2L fOpDiv i fb) := de_op2L (fun _ y => pe_op op_fdivD ha y) o_div hb
theorem d_mod (ha : DE X W a fa) (hb : DE X W b fb) : DE X W (.BinOp a .Mod b pos) (mOp2 fOpMod fa fb) := de_op2 (fun _ _ x y => pe_op op_modN x y) o_mod ha hb
theorem d_modL (ha : PE X a (tVar i)) (hb : DE X W b fb) : DE X W (.BinOp a .Mod b pos) (mOp2L fOpMod i fb) := de_op2L (fun _ y => pe_op op_modN ha y) o_mod hb
theorem d_pow (ha : DE X W a fa) (hb : DE X W b fb) : DE X W (.BinOp a .Pow b pos) (mOp2 fOpPow fa fb) := de_op2 (fun _ _ x y => pe_op op_pow x y) o_pow ha hb
theorem d_powL (ha : PE X a (tVar i)) (hb : DE X W b fb) : DE X W (.BinOp a .Pow b pos) (mOp2L fOpPow i fb) := de_op2L (fun _ y => pe_op op_pow ha y) o_pow hb
theorem d_eq (hu : X.A.units + 64 < cLine) (ha : DE X W a fa) (hb : DE X W b fb) : DE X W (.Compare a [.Eq] [b] pos) (mOp2 fEq fa fb) := de_op2 (fun _ _ x y => pe_cmpR (op_eqD hu) x y (nomark _)) o_eq ha hb
theorem d_eqL (hu : X.A.units + 64 < cLine) (ha : PE X a (tVar i)) (hb : DE X W b fb) : DE X W (.Compare a [.Eq] [b] pos) (mOp2L fEq i fb) := de_op2L (fun _ y => pe_cmpR (op_eqD hu) ha y (nomark _)) o_eq hb
theorem t_eq (hu : X.A.units + 64 < cLine) (ha : DE X W a fa) (hb : DE X W b fb) : DT X W (.Compare a [.Eq] [b] pos) (mB (mOp2 fEq fa fb)) := dt_op2 (pt_cmpR (op_eqD hu) ha hb (nomark _)) o_eq
theorem t_eqL (hu : X.A.units + 64 < cLine) (ha : PE X a (tVar i)) (hb : DE X W b fb) : DT X W (.Compare a [.Eq] [b] pos) (mB (mOp2L fEq i fb)) := dt_op2L (pt_cmpR (op_eqD hu) ha hb (nomark _)) o_eq
theorem d_ne (hu : X.A.units + 64 < cLine) (ha : DE X W a fa) (hb : DE X W b fb) : DE X W (.Compare a [.NotEq] [b] pos) (mOp2 fNe fa fb) := de_op2 (fun _ _ x y => pe_cmpR (op_neD hu) x y (nomark _)) o_ne ha hb
theorem d_neL (hu : X.A.units + 64 < cLine) (ha : PE X a (tVar i)) (hb : DE X W b fb) : DE X W (.Compare a [.NotEq] [b] pos) (mOp2L fNe i fb) := de_op2L (fun _ y => pe_cmpR (op_neD hu) ha y (nomark _)) o_ne hb
theorem t_ne (hu : X.A.units + 64 < cLine) (ha : DE X W a fa) (hb : DE X W b fb) : DT X W (.Compare a [.NotEq] [b] pos) (mB (mOp2 fNe fa fb)) := dt_op2 (pt_cmpR (op_neD hu) ha hb (nomark _)) o_ne
theorem t_neL (hu : X.A.units + 64 < cLine) (ha : PE X a (tVar i)) (hb : DE X W b fb) : DT X W (.Compare a [.NotEq] [b] pos) (mB (mOp2L fNe i fb)) := dt_op2L (pt_cmpR (op_neD hu) ha hb (nomark _)) o_ne
theorem d_lt (ha : DE X W a fa) (hb : DE X W b fb) : DE X W (.Compare a [.Lt] [b] pos) (mOp2 fLt fa fb) := de_op2 (fun _ _ x y => pe_cmpR op_ltD x y (nomark _)) o_lt ha hb
theorem d_ltL (ha : PE X a (tVar i)) (hb : DE X W b fb) : DE X W (.Compare a [.Lt] [b] pos) (mOp2L fLt i fb) := de_op2L (fun _ y => pe_cmpR op_ltD ha y (nomark _)) o_lt hb
theorem t_lt (ha : DE X W a fa) (hb : DE X W b fb) : DT X W (.Compare a [.Lt] [b] pos) (mB (mOp2 fLt fa fb)) := dt_op2 (pt_cmpR op_ltD ha hb (nomark _)) o_lt
theorem t_ltL (ha : PE X a (tVar i)) (hb : DE X W b fb) : DT X W (.Compare a [.Lt] [b] pos) (mB (mOp2L fLt i fb)) := dt_op2L (pt_cmpR op_ltD ha hb (nomark _)) o_lt
theorem d_le (ha : DE X W a fa) (hb : DE X W b fb) : DE X W (.Compare a [.LtE] [b] pos) (mOp2 fLe fa fb) := de_op2 (fun _ _ x y => pe_cmpR op_leD x y (nomark _)) o_le ha hb
theorem d_leL (ha : PE X a (tVar i)) (hb : DE X W b fb) : DE X W (.Compare a [.LtE] [b] pos) (mOp2L fLe i fb) := de_op2L (fun _ y => pe_cmpR op_leD ha y (nomark _)) o_le hb
theorem t_le (ha : DE X W a fa) (hb : DE X W b fb) : DT X W (.Compare a [.LtE] [b] pos) (mB (mOp2 fLe fa fb)) := dt_op2 (pt_cmpR op_leD ha hb (nomark _)) o_le
theorem t_leL (ha : PE X a (tVar i)) (hb : DE X W b fb) : DT X W (.Compare a [.LtE] [b] pos) (mB (mOp2L fLe i fb)) := dt_op2L (pt_cmpR op_leD ha hb (nomark _)) o_le
theorem d_gt (ha : DE X W a fa) (hb : DE X W b fb) : DE X W (.Compare a [.Gt] [b] pos) (mOp2 fGt fa fb) := de_op2 (fun _ _ x y => pe_cmpR op_gtD x y (nomark _)) o_gt ha hb
theorem d_gtL (ha : PE X a (tVar i)) (hb : DE X W b fb) : DE X W (.Compare a [.Gt] [b] pos) (mOp2L fGt i fb) := de_op2L (fun _ y => pe_cmpR op_gtD ha y (nomark _)) o_gt hb
theorem t_gt (ha : DE X W a fa) (hb : DE X W b fb) : DT X W (.Compare a [.Gt] [b] pos) (mB (mOp2 fGt fa fb)) := dt_op2 (pt_cmpR op_gtD ha hb (nomark _)) o_gt
theorem t_gtL (ha : PE X a (tVar i)) (hb : DE X W b fb) : DT X W (.Compare a [.Gt] [b] pos) (mB (mOp2L fGt i fb)) := dt_op2L (pt_cmpR op_gtD ha hb (nomark _)) o_gt
theorem d_ge (ha : DE X W a fa) (hb : DE X W b fb) : DE X W (.Compare a [.GtE] [b] pos) (mOp2 fGe fa fb) := de_op2 (fun _ _ x y => pe_cmpR op_geD x y (nomark _)) o_ge ha hb
theorem d_geL (ha : PE X a (tVar i)) (hb : DE X W b fb) : DE X W (.Compare a [.GtE] [b] pos) (mOp2L fGe i fb) := de_op2L (fun _ y => pe_cmpR op_geD ha y (nomark _)) o_ge hb
theorem t_ge (ha : DE X W a fa) (hb : DE X W b fb) : DT X W (.Compare a [.GtE] [b] pos) (mB (mOp2 fGe fa fb)) := dt_op2 (pt_cmpR op_geD ha hb (nomark _)) o_ge
theorem t_geL (ha : PE X a (tVar i)) (hb : DE X W b fb) : DT X W (.Compare a [.GtE] [b] pos) (mB (mOp2L fGe i fb)) := dt_op2L (pt_cmpR op_geD ha hb (nomark _)) o_ge
theorem d_isn (ha : DE X W a fa) (hb : DE X W b fb) : DE X W (.Compare a [.Is] [b] pos) (mOp2 fIsN fa fb) := de_op2 (fun _ _ x y => pe_cmpR op_isN x y (nomark _)) o_isN ha hb
theorem d_isnL (ha : PE X a (tVar i)) (hb : DE X W b fb) : DE X W (.Compare a [.Is] [b] pos) (mOp2L fIsN i fb) := de_op2L (fun _ y => pe_cmpR op_isN ha y (nomark _)) o_isN hb
theorem t_isn (ha : DE X W a fa) (hb : DE X W b fb) : DT X W (.Compare a [.Is] [b] pos) (mB (mOp2 fIsN fa fb)) := dt_op2 (pt_cmpR op_isN ha hb (nomark _)) o_isN
theorem t_isnL (ha : PE X a (tVar i)) (hb : DE X W b fb) : DT X W (.Compare a [.Is] [b] pos) (mB (mOp2L fIsN i fb)) := dt_op2L (pt_cmpR op_isN ha hb (nomark _)) o_isN
theorem d_notn (ha : DE X W a fa) (hb : DE X W b fb) : DE X W (.Compare a [.IsNot] [b] pos) (mOp2 fNotN fa fb) := de_op2 (fun _ _ x y => pe_cmpR op_notN x y (nomark _)) o_notN ha hb
theorem d_notnL (ha : PE X a (tVar i)) (hb : DE X W b fb) : DE X W (.Compare a [.IsNot] [b] pos) (mOp2L fNotN i fb) := de_op2L (fun _ y => pe_cmpR op_notN ha y (nomark _)) o_notN hb
theorem t_notn (ha : DE X W a fa) (hb : DE X W b fb) : DT X W (.Compare a [.IsNot] [b] pos) (mB (mOp2 fNotN fa fb)) := dt_op2 (pt_cmpR op_notN ha hb (nomark _)) o_notN
theorem t_notnL (ha : PE X a (tVar i)) (hb : DE X W b fb) : DT X W (.Compare a [.IsNot] [b] pos) (mB (mOp2L fNotN i fb)) := dt_op2L (pt_cmpR op_notN ha hb (nomark _)) o_notN
theorem d_isb (ha : DE X W a fa) (hb : DE X W b fb) : DE X W (.Compare a [.Is] [b] pos) (mOp2 fIsB fa fb) := de_op2 (fun _ _ x y => pe_cmpR op_isBl x y (nomark _)) o_isB ha hb
theorem d_isbL (ha : PE X a (tVar i)) (hb : DE X W b fb) : DE X W (.Compare a [.Is] [b] pos) (mOp2L fIsB i fb) := de_op2L (fun _ y => pe_cmpR op_isBl ha y (nomark _)) o_isB hb
theorem t_isb (ha : DE X W a fa) (hb : DE X W b fb) : DT X W (.Compare a [.Is] [b] pos) (mB (mOp2 fIsB fa fb)) := dt_op2 (pt_cmpR op_isBl ha hb (nomark _)) o_isB
theorem t_isbL (ha : PE X a (tVar i)) (hb : DE X W b fb) : DT X W (.Compare a [.Is] [b] pos) (mB (mOp2L fIsB i fb)) := dt_op2L (pt_cmpR op_isBl ha hb (nomark _)) o_isB
theorem d_notb (ha : DE X W a fa) (hb : DE X W b fb) : DE X W (.Compare a [.IsNot] [b] pos) (mOp2 fNotB fa fb) := de_op2 (fun _ _ x y => pe_cmpR op_notBl x y (nomark _)) o_notB ha hb
theorem d_notbL (ha : PE X a (tVar i)) (hb : DE X W b fb) : DE X W (.Compare a [.IsNot] [b] pos) (mOp2L fNotB i fb) := de_op2L (fun _ y => pe_cmpR op_notBl ha y (nomark _)) o_notB hb
theorem t_notb (ha : DE X W a fa) (hb : DE X W b fb) : DT X W (.Compare a [.IsNot] [b] pos) (mB (mOp2 fNotB fa fb)) := dt_op2 (pt_cmpR op_notBl ha hb (nomark _)) o_notB
theorem t_notbL (ha : PE X a (tVar i)) (hb : DE X W b fb) : DT X W (.Compare a [.IsNot] [b] pos) (mB (mOp2L fNotB i fb)) := dt_op2L (pt_cmpR op_notBl ha hb (nomark _)) o_notB
theorem d_neg (ha : DE X W a fa) : DE X W (.UnaryOp .USub a pos) (mOp1 fNeg fa) := de_op1 (fun _ x => pe_un un_neg x) o_neg ha
theorem d_ix (ha : DE X W a fa) (hb : DE X W b fb) (hs : PlainIx b := by intro _ _; rfl) : DE X W (.Subscript a b pos) (mOp2 fIx fa fb) := de_op2 (fun _ _ x y => pe_ix ix_seq x y hs) o_ix ha hb
theorem d_ixL (ha : PE X a (tVar i)) (hb : DE X W b fb) (hs : PlainIx b := by intro _ _; rfl) : DE X W (.Subscript a b pos) (mOp2L fIx i fb) := de_op2L (fun _ y => pe_ix ix_seq ha y hs) o_ix hb
end
end DL
namespace DL
open PySem PySem.Spec PyProof.Rows L2
/-! ### a, b = x, y -/
section
variable {K : PySem.W.Frag} {w : Wd} {S : Sta} {σ : Sg} {H H0 H1 : Hp} {v u : V} {dv dw : DV}
/-- what is new is there -/
def NewAt (H : Hp) (v : V) (dv : DV) : Prop := match dv with
  | .val _ => True
  | .new _ => ∀ a, v = .ref a → H a ≠ none
theorem RV.newAt {r : List Sl} (x : RV K w r σ H0 H v dv) : NewAt H v dv := by
  cases dv with
  | val d => trivial
  | new o =>
    obtain ⟨a, e, x, _⟩ := x
    intro b e2
    rw [e] at e2
    cases e2
    exact x.there
theorem NewAt.later {w1 : Wd} {r r1 : List Sl} {σ1 : Sg} (x : NewAt H v dv) (s : Stp w r σ H w1 r1 σ1 H1) : NewAt H1 v dv := by
  cases dv with
  | val d => trivial
  | new o => exact fun a e => s.dm a (x a e)
theorem RV.past {i : Nat} (R : Rel K w S σ H) (hx : NewAt H1 v dv) (y : RV K w S.r σ H1 H u dw) : RV K w (S.r.set i dv.sl) (σ.set i (some v)) H1 H u dw := by
  cases dw with
  | val d => exact y
  | new o =>
    obtain ⟨a, e, y, nf, no, h1⟩ := y
    refine ⟨a, e, y, nf, fun z => ?_, h1⟩
    rcases z with z | ⟨j, o2, e1, e2⟩
    · exact no (.inl z)
    · by_cases hj : i = j
      · subst hj
        rw [List.getElem?_set_self'] at e1 e2
        cases e3 : S.r[i]? with
        | none => rw [e3] at e1; cases e1
        | some z3 =>
          cases e4 : σ[i]? with
          | none => rw [e4] at e2; cases e2
          | some z4 =>
            rw [e3] at e1
            rw [e4] at e2
            have e5 : dv.sl = Sl.own o2 := Option.some.inj e1
            have e6 : v = .ref a := Option.some.inj (Option.some.inj e2)
            cases dv with
            | val d => cases e5
            | new o3 => exact hx a e6 h1
      · rw [List.getElem?_set_ne hj] at e1 e2
        exact no (.inr ⟨j, o2, e1, e2⟩)
end
def sPar2 (i j : Nat) (fa fb : M DV) : M Fl := fun S => (fa S).bnd fun x S1 => (fb S1).bnd fun y S2 => .ok .nx ((S2.set i x.sl).set j y.sl)
def sPar3 (i j l : Nat) (fa fb fc : M DV) : M Fl := fun S => (fa S).bnd fun x S1 => (fb S1).bnd fun y S2 => (fc S2).bnd fun z S3 => .ok .nx (((S3.set i x.sl).set j y.sl).set l z.sl)
section
variable {X : Cx} {W : WX} {a b c : Expr} {fa fb fc : M DV} {i j l : Nat} {x y z : Str} {px py pz pt pos : Pos} {kt k2 : Nat} {pt2 : Pos}
theorem ds_par2 (hc : X.calm = true) (hN : X.N.Nodup) (hi : X.N[i]? = some x) (hj : X.N[j]? = some y) (hij : i ≠ j)
    (hx : X.env.scope.names.lookup x = some .local) (hy : X.env.scope.names.lookup y = some .local) (ha : DE X W a fa) (hb : DE X W b fb)
    (hw : swappedStores [.Tuple [.Name x px, .Name y py] kt pt] (.Tuple [a, b] k2 pt2) X.env = pure (some [x, y]))
    (hs : swapsWithSole [.Tuple [.Name x px, .Name y py] kt pt] (.Tuple [a, b] k2 pt2) pos.line X.env = pure false := by rfl)
    (s2 : starEach [a, b] X.env = (false, eval a X.env) :: starEach [b] X.env := by rfl) (s1 : starEach [b] X.env = (false, eval b X.env) :: starEach [] X.env := by rfl) :
    DS X W (.Assign [.Tuple [.Name x px, .Name y py] kt pt] (.Tuple [a, b] k2 pt2) pos) (sPar2 i j fa fb) := by
  refine ps_imp (ps_par hc hN hi hj hij hx hy (pa_cons ha (pa_cons hb pa_nil s1) s2) hw hs) fun D σ H h => ?_
  obtain ⟨w, S, R, h⟩ := h
  refine ⟨w, S, R, Res.to_imp (Res.to_bnd h) (fun dx S1 h1 => ?_) fun _ _ z => z⟩
  intro w1 v H1 s1 R1 x1
  refine ⟨w1, S1, R1, Res.to_imp (Res.to_bnd h1) (fun dy S2 h2 => ?_) fun _ _ z => z.later s1⟩
  intro w2 u H2 s2 R2 x2
  refine ⟨v, u, rfl, ?_⟩
  have y1 := x1.later R1 s2
  obtain ⟨R3, s3⟩ := R2.putV i y1
  have x3 := x2.past (i := i) R2 x1.newAt
  obtain ⟨R4, s4⟩ := R3.putV j (x3.start s1)
  exact h2 w2 _ H2 (s4 _ _ _ (s3 _ _ _ (s1.trans s2))) R4
theorem ds_par3 (hc : X.calm = true) (hN : X.N.Nodup) (hi : X.N[i]? = some x) (hj : X.N[j]? = some y) (hl : X.N[l]? = some z) (hij : i ≠ j) (hil : i ≠ l) (hjl : j ≠ l)
    (hx : X.env.scope.names.lookup x = some .local) (hy : X.env.scope.names.lookup y = some .local) (hz : X.env.scope.names.lookup z = some .local) (ha : DE X W a fa) (hb : DE X W b fb) (hcc : DE X W c fc)
    (hw : swappedStores [.Tuple [.Name x px, .Name y py, .Name z pz] kt pt] (.Tuple [a, b, c] k2 pt2) X.env = pure (some [x, y, z]))
    (hs : swapsWithSole [.Tuple [.Name x px, .Name y py, .Name z pz] kt pt] (.Tuple [a, b, c] k2 pt2) pos.line X.env = pure false := by rfl)
    (s3 : starEach [a, b, c] X.env = (false, eval a X.env) :: starEach [b, c] X.env := by rfl) (s2 : starEach [b, c] X.env = (false, eval b X.env) :: starEach [c] X.env := by rfl) (s1 : starEach [c] X.env = (false, eval c X.env) :: starEach [] X.env := by rfl) :
    DS X W (.Assign [.Tuple [.Name x px, .Name y py, .Name z pz] kt pt] (.Tuple [a, b, c] k2 pt2) pos) (sPar3 i j l fa fb fc) := by
  refine ps_imp (ps_par3 hc hN hi hj hl hij hil hjl hx hy hz (pa_cons ha (pa_cons hb (pa_cons hcc pa_nil s1) s2) s3) hw hs) fun D σ H h => ?_
  obtain ⟨w, S, R, h⟩ := h
  refine ⟨w, S, R, Res.to_imp (Res.to_bnd h) (fun dx S1 h1 => ?_) fun _ _ z => z⟩
  intro w1 v H1 s1 R1 x1
  refine ⟨w1, S1, R1, Res.to_imp (Res.to_bnd h1) (fun dy S2 h2 => ?_) fun _ _ z => z.later s1⟩
  intro w2 u H2 s2 R2 x2
  refine ⟨w2, S2, R2, Res.to_imp (Res.to_bnd h2) (fun dz S3 h3 => ?_) fun _ _ z => z.later (s1.trans s2)⟩
  intro w3 t H3 s3 R3 x3
  refine ⟨v, u, t, rfl, ?_⟩
  have y1 := (x1.later R1 s2).later R2 s3
  have y2 := x2.later R2 s3
  obtain ⟨R4, s4⟩ := R3.putV i y1
  have z2 := y2.past (i := i) R3 x1.newAt
  have z3 := x3.past (i := i) R3 (x1.newAt.later s2)
  obtain ⟨R5, s5⟩ := R4.putV j (z2.start s1)
  have t3 := z3.past (i := j) R4 x2.newAt
  obtain ⟨R6, s6⟩ := R5.putV l (t3.start (s1.trans s2))
  exact h3 w3 _ H3 (s6 _ _ _ (s5 _ _ _ (s4 _ _ _ ((s1.trans s2).trans s3)))) R6
end
end DL
namespace DL
open PySem PySem.Spec PyProof.Rows L2
/-! ### loops, as equations -/
theorem sWhN_more {c : M Bool} {b : M Fl} : ∀ {n : Nat} {S : Sta}, sWhN c b n S ≠ .stk → sWhN c b (n + 1) S = sWhN c b n S := by
  intro n
  induction n with
  | zero => intro S h; exact absurd rfl h
  | succ n ih =>
    intro S h
    show (c S).bnd _ = (c S).bnd _
    have h' : (c S).bnd (fun x S1 => if x = true then (b S1).bnd fun fl S2 => match fl with
      | .nx => sWhN c b n S2
      | .ct => sWhN c b n S2
      | .br => .ok .nx S2
      | .rt dv => .ok (.rt dv) S2
    else .ok .nx S1) ≠ Res.stk := h
    cases e : c S with
    | ok x S1 =>
      rw [e] at h'
      simp only [Res.bnd_ok] at h' ⊢
      by_cases hx : x = true
      · simp only [if_pos hx] at h' ⊢
        cases e2 : b S1 with
        | ok fl S2 =>
          rw [e2] at h'
          simp only [Res.bnd_ok] at h' ⊢
          cases fl with
          | nx => exact ih h'
          | ct => exact ih h'
          | br => rfl
          | rt dv => rfl
        | exc ex S2 => rfl
        | stk => rfl
      · simp only [if_neg hx]
    | exc ex S1 => rfl
    | stk => rfl
theorem sWhN_le {c : M Bool} {b : M Fl} {n m : Nat} {S : Sta} (h : sWhN c b n S ≠ .stk) (hm : n ≤ m) : sWhN c b m S = sWhN c b n S := by
  induction hm with
  | refl => rfl
  | step hm ih => rw [sWhN_more (by rw [ih]; exact h), ih]
theorem sWh_eq {c : M Bool} {b : M Fl} {n : Nat} {S : Sta} (h : sWhN c b n S ≠ .stk) : sWh c b S = sWhN c b n S := by
  unfold sWh
  have ex : ∃ n, sWhN c b n S ≠ .stk := ⟨n, h⟩
  rw [dif_pos ex]
  have h2 := Classical.choose_spec ex
  rcases Nat.le_total n (Classical.choose ex) with l | l
  · exact sWhN_le h l
  · exact (sWhN_le h2 l).symm
theorem sWh_no {c : M Bool} {b : M Fl} {S : Sta} (h : ∀ n, sWhN c b n S = .stk) : sWh c b S = .stk := by
  unfold sWh
  rw [dif_neg]
  rintro ⟨n, e⟩
  exact e (h n)
theorem sWh_false {c : M Bool} {b : M Fl} {S S1 : Sta} (h : c S = .ok false S1) : sWh c b S = .ok .nx S1 := by
  have e : sWhN c b 1 S = .ok .nx S1 := by
    show (c S).bnd _ = _
    rw [h]
    rfl
  rw [sWh_eq (n := 1) (by rw [e]; exact fun z => nomatch z), e]
theorem sWh_true {c : M Bool} {b : M Fl} {S S1 S2 : Sta} (h : c S = .ok true S1) (h2 : b S1 = .ok .nx S2) : sWh c b S = sWh c b S2 := by
  have e : ∀ n, sWhN c b (n + 1) S = sWhN c b n S2 := fun n => by
    show (c S).bnd _ = _
    rw [h]
    simp only [Res.bnd_ok, if_pos, h2]
  by_cases ex : ∃ n, sWhN c b n S2 ≠ .stk
  · obtain ⟨n, hn⟩ := ex
    rw [sWh_eq hn, sWh_eq (n := n + 1) (by rw [e]; exact hn), e]
  · have all : ∀ n, sWhN c b n S2 = .stk := fun n => Classical.byContradiction fun z => ex ⟨n, z⟩
    rw [sWh_no all, sWh_no fun n => ?_]
    cases n with
    | zero => rfl
    | succ n => rw [e, all]
theorem sForL_nil {g : Tg} {b : M Fl} {S : Sta} : sForL g b [] S = .ok .nx S := rfl
theorem sForL_cons {g : Tg} {b : M Fl} {d : D} {ds : List D} {S S1 S2 : Sta} (h : g d S = some S1) (h2 : b S1 = .ok .nx S2) : sForL g b (d :: ds) S = sForL g b ds S2 := by
  show (match g d S with | none => _ | some S1 => _) = _
  rw [h]
  show (b S1).bnd _ = _
  rw [h2]
  rfl
theorem sForL_rt {g : Tg} {b : M Fl} {d : D} {ds : List D} {S S1 S2 : Sta} {dv : DV} (h : g d S = some S1) (h2 : b S1 = .ok (.rt dv) S2) : sForL g b (d :: ds) S = .ok (.rt dv) S2 := by
  show (match g d S with | none => _ | some S1 => _) = _
  rw [h]
  show (b S1).bnd _ = _
  rw [h2]
  rfl
/-- a for whose turns only lead the state on -/
theorem sForL_run {g : Tg} {b : M Fl} {α : Type} (f : Nat → α → α) (st : α → Sta → Prop) : ∀ (ds : List D) (k : Nat) (a : α) (S : Sta), st a S → (∀ i d a S, ds[i]? = some d → st a S → ∃ S1 S2, g d S = some S1 ∧ b S1 = .ok .nx S2 ∧ st (f (k + i) a) S2) →
    ∃ S', sForL g b ds S = .ok .nx S' ∧ st ((List.range' k ds.length).foldl (fun a i => f i a) a) S' := by
  intro ds
  induction ds with
  | nil => intro k a S h _; exact ⟨S, rfl, h⟩
  | cons d ds ih =>
    intro k a S h hs
    obtain ⟨S1, S2, h1, h2, h3⟩ := hs 0 d a S rfl h
    obtain ⟨S', e, h4⟩ := ih (k + 1) (f k a) S2 h3 fun i d' a' S' e' h' => by
      have := hs (i + 1) d' a' S' (by simpa using e') h'
      rwa [show k + (i + 1) = k + 1 + i by omega] at this
    refine ⟨S', by rw [sForL_cons h1 h2, e], ?_⟩
    simpa [List.range'_succ] using h4
/-! ### comprehensions, as equations -/
theorem wp_set {vs : List Nat} {r : List Sl} {i : Nat} {x : Sl} (h : i ∈ vs) : wp vs (r.set i x) = wp vs r := by
  apply List.ext_getElem?
  intro j
  by_cases hj : j ∈ vs
  · by_cases hl : j < r.length
    · have a1 := wp_in (r := r.set i x) hj
      have a2 := wp_in (r := r) hj
      have l1 : (wp vs (r.set i x))[j]? ≠ none := by simp [hl]
      have l2 : (wp vs r)[j]? ≠ none := by simp [hl]
      rcases a1 with a1 | a1
      · exact absurd a1 l1
      · rcases a2 with a2 | a2
        · exact absurd a2 l2
        · rw [a1, a2]
    · rw [List.getElem?_eq_none (by simpa using hl), List.getElem?_eq_none (by simpa using hl)]
  · rw [wp_out hj, wp_out hj, List.getElem?_set_ne]
    intro e
    exact hj (e ▸ h)
theorem mrg_same {vs : List Nat} {r0 r : List Sl} (h : wp vs r = wp vs r0) : mrg r0 vs r = r0 := by
  have hl : r.length = r0.length := by
    have := congrArg List.length h
    simpa using this
  apply List.ext_getElem?
  intro j
  by_cases hj : j ∈ vs
  · by_cases hb : j < r.length
    · exact mrg_in hj hb (by omega)
    · rw [List.getElem?_eq_none (by simpa using hb), List.getElem?_eq_none (by omega)]
  · rw [mrg_out hj, ← wp_out (vs := vs) hj, h, wp_out hj]
/-- a comprehension that changes nothing -/
theorem lcL_map {α : Type} {vs : List Nat} {g : Tg} {t : M Bool} {el : M DV} {r : List Sl} {m : List Ob} (enc : α → D) (p : α → Bool) (f : α → D) : ∀ (ds : List α) (acc : List D) (S : Sta), wp vs S.r = wp vs r → S.m = m →
    (∀ d ∈ ds, ∃ S1 S2, g (enc d) ⟨wp vs r, m⟩ = some S1 ∧ t S1 = .ok (p d) S2 ∧ (p d = false → wp vs S2.r = wp vs r ∧ S2.m = m) ∧ (p d = true → ∃ dv S3, el S2 = .ok dv S3 ∧ dv.fz = f d ∧ wp vs S3.r = wp vs r ∧ S3.m = m)) → acc.length + ds.length ≤ sizeLine →
    ∃ S', lcL vs g t el (ds.map enc) acc S = .ok (acc ++ (ds.filter p).map f) S' ∧ wp vs S'.r = wp vs r ∧ S'.m = m := by
  intro ds
  induction ds with
  | nil => intro acc S h hm _ _; exact ⟨S, by simp [lcL], h, hm⟩
  | cons d ds ih =>
    intro acc S h hm hs hl
    obtain ⟨S1, S2, h1, h2, h3, h4⟩ := hs d (List.mem_cons_self ..)
    have e1 : (⟨wp vs S.r, S.m⟩ : Sta) = ⟨wp vs r, m⟩ := by rw [h, hm]
    rw [List.length_cons] at hl
    by_cases hp : p d = true
    · obtain ⟨dv, S3, h5, h6, h7, h8⟩ := h4 hp
      obtain ⟨S', e, q1, q2⟩ := ih (acc ++ [f d]) S3 h7 h8 (fun d' hd => hs d' (List.mem_cons_of_mem _ hd)) (by rw [List.length_append]; simp only [List.length_singleton]; omega)
      refine ⟨S', ?_, q1, q2⟩
      rw [List.map_cons]
      unfold lcL
      rw [e1, h1]
      simp only [h2, Res.nox_ok, Res.bnd_ok, hp, if_true, h5, h6]
      rw [if_pos (by omega), e, List.filter_cons_of_pos hp]
      simp
    · have hp' : p d = false := by simpa using hp
      obtain ⟨q3, q4⟩ := h3 hp'
      obtain ⟨S', e, q1, q2⟩ := ih acc S2 q3 q4 (fun d' hd => hs d' (List.mem_cons_of_mem _ hd)) (by omega)
      refine ⟨S', ?_, q1, q2⟩
      rw [List.map_cons]
      unfold lcL
      rw [e1, h1]
      simp only [h2, Res.nox_ok, Res.bnd_ok, hp', Bool.false_eq_true, if_false]
      rw [e, List.filter_cons_of_neg hp]
theorem mLc_map {α : Type} {it : M (List D)} {vs : List Nat} {g : Tg} {t : M Bool} {el : M DV} {S S1 : Sta} {ds : List α} (enc : α → D) (p : α → Bool) (f : α → D) (hi : it S = .ok (ds.map enc) S1) (hl : ds.length ≤ sizeLine)
    (hs : ∀ d ∈ ds, ∃ S2 S3, g (enc d) ⟨wp vs S1.r, S1.m⟩ = some S2 ∧ t S2 = .ok (p d) S3 ∧ (p d = false → wp vs S3.r = wp vs S1.r ∧ S3.m = S1.m) ∧ (p d = true → ∃ dv S4, el S3 = .ok dv S4 ∧ dv.fz = f d ∧ wp vs S4.r = wp vs S1.r ∧ S4.m = S1.m)) :
    mLc it vs g t el S = .ok (.new (.lst ((ds.filter p).map f))) S1 := by
  obtain ⟨S', e, q1, q2⟩ := lcL_map (r := S1.r) (m := S1.m) enc p f ds [] S1 rfl rfl hs (by simpa using hl)
  unfold mLc
  rw [hi]
  simp only [Res.bnd_ok, e, List.nil_append]
  rw [mrg_same q1, q2]
/-- .. all are taken -/
theorem mLc_all {α : Type} {it : M (List D)} {vs : List Nat} {g : Tg} {el : M DV} {S S1 : Sta} {ds : List α} (enc : α → D) (f : α → D) (hi : it S = .ok (ds.map enc) S1) (hl : ds.length ≤ sizeLine)
    (hs : ∀ d ∈ ds, ∃ S2, g (enc d) ⟨wp vs S1.r, S1.m⟩ = some S2 ∧ ∃ dv S4, el S2 = .ok dv S4 ∧ dv.fz = f d ∧ wp vs S4.r = wp vs S1.r ∧ S4.m = S1.m) :
    mLc it vs g mYes el S = .ok (.new (.lst (ds.map f))) S1 := by
  rw [mLc_map enc (fun _ => true) f hi hl fun d hd => ?_]
  · rw [List.filter_eq_self.mpr fun _ _ => rfl]
  · obtain ⟨S2, h1, h2⟩ := hs d hd
    exact ⟨S2, S2, h1, rfl, fun z => (nomatch z), fun _ => h2⟩
/-- a comprehension that leads shared objects on: Q of each item, I of the shared part -/
theorem lcL_inv {vs : List Nat} {g : Tg} {el : M DV} {r : List Sl} (I : List Ob → Prop) (Q : D → Prop) : ∀ (ds acc : List D) (S : Sta), wp vs S.r = wp vs r → I S.m → (∀ d ∈ acc, Q d) →
    (∀ d ∈ ds, ∀ m, I m → ∃ S1 dv S2, g d ⟨wp vs r, m⟩ = some S1 ∧ el S1 = .ok dv S2 ∧ Q dv.fz ∧ wp vs S2.r = wp vs r ∧ I S2.m) → acc.length + ds.length ≤ sizeLine →
    ∃ out S', lcL vs g mYes el ds acc S = .ok out S' ∧ wp vs S'.r = wp vs r ∧ I S'.m ∧ (∀ d ∈ out, Q d) ∧ out.length = acc.length + ds.length := by
  intro ds
  induction ds with
  | nil => intro acc S h hm ha _ _; exact ⟨acc, S, rfl, h, hm, ha, rfl⟩
  | cons d ds ih =>
    intro acc S h hm ha hs hl
    obtain ⟨S1, dv, S2, h1, h2, h3, h4, h5⟩ := hs d (List.mem_cons_self ..) S.m hm
    rw [List.length_cons] at hl
    obtain ⟨out, S', e, q1, q2, q3, q4⟩ := ih (acc ++ [dv.fz]) S2 h4 h5 (fun x hx => by
      rcases List.mem_append.mp hx with hx | hx
      · exact ha x hx
      · rw [List.mem_singleton.mp hx]; exact h3) (fun d' hd => hs d' (List.mem_cons_of_mem _ hd)) (by rw [List.length_append]; simp; omega)
    refine ⟨out, S', ?_, q1, q2, q3, by rw [q4]; simp; omega⟩
    unfold lcL
    rw [h, h1]
    simp only [mYes, h2, Res.nox_ok, Res.bnd_ok, if_true]
    rw [if_pos (by omega)]
    exact e
theorem mLc_inv {it : M (List D)} {vs : List Nat} {g : Tg} {el : M DV} {S S1 : Sta} {ds : List D} (I : List Ob → Prop) (Q : D → Prop) (hi : it S = .ok ds S1) (hl : ds.length ≤ sizeLine) (hI : I S1.m)
    (hs : ∀ d ∈ ds, ∀ m, I m → ∃ S2 dv S3, g d ⟨wp vs S1.r, m⟩ = some S2 ∧ el S2 = .ok dv S3 ∧ Q dv.fz ∧ wp vs S3.r = wp vs S1.r ∧ I S3.m) :
    ∃ out m', mLc it vs g mYes el S = .ok (.new (.lst out)) ⟨S1.r, m'⟩ ∧ I m' ∧ (∀ d ∈ out, Q d) ∧ out.length = ds.length := by
  obtain ⟨out, S', e, q1, q2, q3, q4⟩ := lcL_inv (r := S1.r) I Q ds [] S1 rfl hI (fun _ h => nomatch h) hs (by simpa using hl)
  refine ⟨out, S'.m, ?_, q2, q3, by simpa using q4⟩
  unfold mLc
  rw [hi]
  simp only [Res.bnd_ok, e]
  rw [mrg_same q1]
/-! ### small steps -/
theorem rgD_get {lo : Int} {n i : Nat} {d : D} (h : (rgD lo n)[i]? = some d) : i < n ∧ d = .int (lo + i) := by
  unfold rgD at h
  rw [List.getElem?_map] at h
  cases e : (List.range n)[i]? with
  | none => rw [e] at h; cases h
  | some j =>
    rw [e] at h
    obtain ⟨h1, h2⟩ := List.getElem?_eq_some_iff.mp e
    have h3 : i < n := by simpa using h1
    have h4 : j = i := by simpa using h2.symm
    subst h4
    cases h
    exact ⟨h3, rfl⟩
theorem rgD_mem {lo : Int} {n : Nat} {d : D} (h : d ∈ rgD lo n) : ∃ i : Nat, i < n ∧ d = .int (lo + i) := by
  obtain ⟨i, e⟩ := List.getElem?_of_mem h
  exact ⟨i, rgD_get e⟩
theorem mulOk_r {i j : Int} (h : -18446744073709551616 < j ∧ j < 18446744073709551616) : mulOk i j = true := mulOk_of (show MulP i j from .inl (.inr (by simpa using h)))
theorem mulOk_l {i j : Int} (h : -18446744073709551616 < i ∧ i < 18446744073709551616) : mulOk i j = true := mulOk_of (show MulP i j from .inl (.inl (by simpa using h)))
theorem divOk_of {j : Int} (h0 : j ≠ 0) {b : Nat} (h : j.natAbs < 2 ^ b) (hb : b ≤ 9000) : divOk j = true := divOk_of' (show DivP j from ⟨h0, by
  rw [Nat.log2_lt (by omega)]
  exact Nat.lt_of_lt_of_le h (Nat.pow_le_pow_right (by omega) hb)⟩)
theorem divOk_s {k : Int} (h : 0 < k) (h2 : k < 18446744073709551616) : divOk k = true := divOk_of (by omega) (b := 64) (by omega) (by decide)
/-! ### combinators, applied -/
section
variable {S : Sta} {r : List Sl} {m : List Ob} {i j l : Nat} {f g h : M DV} {fa : M (List D)} {c c' : M Bool} {p p' : M Fl} {d : D} {dv : DV} {o : Ob}
@[simp] theorem sSkip_ap : sSkip S = .ok .nx S := id rfl
@[simp] theorem sSeq_ap : sSeq p p' S = (p S).bnd fun fl S1 => match fl with
  | .nx => p' S1
  | fl => .ok fl S1 := id rfl
@[simp] theorem sExpr_ap : sExpr f S = (f S).bnd fun _ S1 => .ok .nx S1 := id rfl
@[simp] theorem sRet_ap : sRet f S = (f S).bnd fun dv S1 => .ok (.rt dv) S1 := id rfl
@[simp] theorem sRetN_ap : sRetN S = .ok (.rt (.val .non)) S := id rfl
@[simp] theorem sBrk_ap : sBrk S = .ok .br S := id rfl
@[simp] theorem sCnt_ap : sCnt S = .ok .ct S := id rfl
@[simp] theorem sIf_ap : sIf c p p' S = (c S).bnd fun x S1 => if x = true then p S1 else p' S1 := id rfl
@[simp] theorem sNever_ap : sNever S = .stk := id rfl
@[simp] theorem sAsg_ap : sAsg i f S = (f S).bnd fun dv S1 => .ok .nx (S1.set i dv.sl) := id rfl
@[simp] theorem sAsgG_ap {t : Tg} : sAsgG f t S = (f S).bnd fun dv S1 => match t dv.fz S1 with
  | some S2 => .ok .nx S2
  | none => .stk := id rfl
@[simp] theorem sPar2_ap : sPar2 i j f g S = (f S).bnd fun x S1 => (g S1).bnd fun y S2 => .ok .nx ((S2.set i x.sl).set j y.sl) := id rfl
@[simp] theorem sPar3_ap : sPar3 i j l f g h S = (f S).bnd fun x S1 => (g S1).bnd fun y S2 => (h S2).bnd fun z S3 => .ok .nx (((S3.set i x.sl).set j y.sl).set l z.sl) := id rfl
@[simp] theorem set_mk {x : Sl} : Sta.set ⟨r, m⟩ i x = ⟨r.set i x, m⟩ := id rfl
@[simp] theorem mVar_ap : mVar i ⟨r, m⟩ = match r[i]? with
  | some (.val d) => .ok (.val d) ⟨r, m⟩
  | some (.own o) => .ok (.val o.fz) ⟨r.set i (.val o.fz), m⟩
  | _ => .stk := id rfl
@[simp] theorem mC_ap : mC d S = .ok (.val d) S := id rfl
@[simp] theorem mANil_ap : mANil S = .ok [] S := id rfl
@[simp] theorem mACons_ap : mACons f fa S = (f S).bnd fun x S1 => (fa S1).bnd fun xs S2 => .ok (x.fz :: xs) S2 := id rfl
@[simp] theorem mTup_ap : mTup fa S = (fa S).bnd fun ds S1 => if ds.length ≤ sizeLine then .ok (.val (.tup ds)) S1 else .stk := id rfl
@[simp] theorem mLst_ap : mLst fa S = (fa S).bnd fun ds S1 => if ds.length ≤ sizeLine then .ok (.new (.lst ds)) S1 else .stk := id rfl
@[simp] theorem mLoc_ap : mLoc fa S = (fa S).bnd fun ds S1 => if ds.length ≤ sizeLine then .ok (.val (.loc S1.m.length)) ⟨S1.r, S1.m ++ [.lst ds]⟩ else .stk := id rfl
@[simp] theorem mOp2_ap {q : List Ob → D → D → Option DV} : mOp2 q f g S = (f S).bnd fun x S1 => (g S1).bnd fun y S2 => oRes (q S2.m x.fz y.fz) S2 := id rfl
@[simp] theorem mOp1_ap {q : List Ob → D → Option DV} : mOp1 q f S = (f S).bnd fun x S1 => oRes (q S1.m x.fz) S1 := id rfl
@[simp] theorem mCB_ap {q : List Ob → List D → Option DV} : mCB q fa S = (fa S).bnd fun xs S1 => oRes (q S1.m xs) S1 := id rfl
@[simp] theorem mOp2L_ap {q : List Ob → D → D → Option DV} : mOp2L q i g S = match peek S i with
  | none => .stk
  | some _ => (g S).bnd fun y S1 => match peek S1 i with
    | none => .stk
    | some x => oRes (q S1.m x y.fz) S1 := id rfl
@[simp] theorem mOp1L_ap {q : List Ob → D → Option DV} : mOp1L q i S = match peek S i with
  | none => .stk
  | some x => oRes (q S.m x) S := id rfl
@[simp] theorem mM1_ap {q : List Ob → D → D → Option DV} : mM1 q f g S = (f S).bnd fun x S1 => match x.fz with
  | .str z => (g S1).bnd fun y S2 => oRes (q S2.m (.str z) y.fz) S2
  | _ => .stk := id rfl
@[simp] theorem peek_ap : peek ⟨r, m⟩ i = match r[i]? with
  | some (.val d) => some d
  | some (.own o) => some o.fz
  | _ => none := id rfl
@[simp] theorem mB_ap : mB f S = (f S).bnd fun x S1 => match x with
  | .val (.bl b) => .ok b S1
  | _ => .stk := id rfl
@[simp] theorem mAnd_ap : mAnd c c' S = (c S).bnd fun x S1 => if x = true then c' S1 else .ok false S1 := id rfl
@[simp] theorem mOr_ap : mOr c c' S = (c S).bnd fun x S1 => if x = true then .ok true S1 else c' S1 := id rfl
@[simp] theorem mNot_ap : mNot c S = (c S).bnd fun x S1 => .ok (!x) S1 := id rfl
@[simp] theorem mIf_ap : mIf c f g S = (c S).bnd fun x S1 => if x = true then f S1 else g S1 := id rfl
@[simp] theorem mAndV_ap : mAndV f g S = (f S).bnd fun x S1 => match x with
  | .val (.bl true) => g S1
  | .val (.bl false) => .ok (.val (.bl false)) S1
  | _ => .stk := id rfl
@[simp] theorem mOrV_ap : mOrV f g S = (f S).bnd fun x S1 => match x with
  | .val (.bl true) => .ok (.val (.bl true)) S1
  | .val (.bl false) => g S1
  | _ => .stk := id rfl
@[simp] theorem mNotV_ap : mNotV f S = (f S).bnd fun x S1 => match x with
  | .val (.bl b) => .ok (.val (.bl (!b))) S1
  | _ => .stk := id rfl
@[simp] theorem mChain_ap {q q' : List Ob → D → D → Option DV} : mChain q q' f g h S = (f S).bnd fun x S1 => (g S1).bnd fun y S2 => match asB (q S2.m x.fz y.fz) with
  | some true => (h S2).bnd fun z S3 => oRes (q' S3.m y.fz z.fz) S3
  | some false => .ok (.val (.bl false)) S2
  | none => .stk := id rfl
@[simp] theorem asB_bl {k : Bool} : asB (some (.val (.bl k))) = some k := id rfl
@[simp] theorem mFn_ap {F : Fun} : mFn F fa S = (fa S).bnd fun ds S1 => frRes S1 (F ds S1.m) := id rfl
@[simp] theorem mYes_ap : mYes S = .ok true S := id rfl
@[simp] theorem obj_ap : obj ⟨r, m⟩ i = match r[i]? with
  | some (.own o) => some o
  | some (.val (.loc n)) => m[n]?
  | _ => none := id rfl
@[simp] theorem setObj_ap : setObj ⟨r, m⟩ i o = match r[i]? with
  | some (.val (.loc n)) => ⟨r, m.set n o⟩
  | _ => ⟨r.set i (.own o), m⟩ := id rfl
@[simp] theorem mApp_ap : mApp i f S = match obj S i with
  | some (.lst _) => (f S).bnd fun dv S1 => match obj S1 i with
    | some (.lst ds) => if ds.length < sizeLine then .ok (.val .non) (setObj S1 i (.lst (ds ++ [dv.fz]))) else .stk
    | _ => .stk
  | _ => .stk := id rfl
@[simp] theorem mExt_ap : mExt i f S = match obj S i with
  | some (.lst _) => (f S).bnd fun dv S1 => match obj S1 i, dv with
    | some (.lst ds), .new (.lst es) => if ds.length + es.length ≤ sizeLine then .ok (.val .non) (setObj S1 i (.lst (ds ++ es))) else .stk
    | _, _ => .stk
  | _ => .stk := id rfl
@[simp] theorem sSetIx_ap {o' : Nat} : sSetIx o' f g S = (g S).bnd fun dv S1 => (match obj S1 o' with
  | some (.lst _) => (f S1).bnd fun iv S2 => match obj S2 o', iv.fz with
    | some (.lst ds), .int k => (match ixN ds.length k with
      | some j => .ok .nx (setObj S2 o' (.lst (ds.set j dv.fz)))
      | none => .stk)
    | _, _ => .stk
  | _ => .stk) := id rfl
@[simp] theorem mDNew_ap : mDNew S = .ok (.new (.dic [])) S := id rfl
@[simp] theorem mDGet_ap : mDGet i f S = match peek S i with
  | some _ => (f S).bnd fun kv S1 => match peek S1 i, keyD kv.fz with
    | some (.dic l), some k => (match valD l k with
      | some d => .ok (.val d) S1
      | none => .stk)
    | _, _ => .stk
  | none => .stk := id rfl
@[simp] theorem mDIn_ap {neg : Bool} : mDIn neg f i S = (f S).bnd fun kv S1 => match peek S1 i, keyD kv.fz with
  | some (.dic l), some k => .ok (.val (.bl (if neg then !(valD l k).isSome else (valD l k).isSome))) S1
  | _, _ => .stk := id rfl
@[simp] theorem sDPut_ap : sDPut i f g S = (g S).bnd fun dv S1 => (match obj S1 i with
  | some (.dic _) => (f S1).bnd fun kv S2 => match obj S2 i, keyD kv.fz with
    | some (.dic l), some k => if l.length < sizeLine then .ok .nx (setObj S2 i (.dic (putD l k dv.fz))) else .stk
    | _, _ => .stk
  | _ => .stk) := id rfl
@[simp] theorem keyD_int {k : Int} : keyD (.int k) = some (.inl k) := id rfl
@[simp] theorem iSeq_ap : iSeq f S = (f S).bnd fun dv S1 => match dv.fz with
  | .lst ds => .ok ds S1
  | .tup ds => .ok ds S1
  | _ => .stk := id rfl
@[simp] theorem iRg1_ap : iRg1 f S = (f S).bnd fun dv S1 => match dv.fz with
  | .int j => if -(2 ^ 62) ≤ j ∧ j < 2 ^ 62 then .ok (rgD 0 j.toNat) S1 else .stk
  | _ => .stk := id rfl
@[simp] theorem iRg2_ap : iRg2 f g S = (f S).bnd fun dv S1 => (g S1).bnd fun dv2 S2 => match dv.fz, dv2.fz with
  | .int i, .int j => if (-(2 ^ 62) ≤ i ∧ i < 2 ^ 62) ∧ -(2 ^ 62) ≤ j ∧ j < 2 ^ 62 then .ok (rgD i (j - i).toNat) S2 else .stk
  | _, _ => .stk := id rfl
@[simp] theorem iZip_ap : iZip fa S = (fa S).bnd fun ds S1 => match ds with
  | [.lst a, .lst b] => .ok (zipD a b) S1
  | [.tup a, .tup b] => .ok (zipD a b) S1
  | _ => .stk := id rfl
@[simp] theorem gV_ap : gV i d ⟨r, m⟩ = some ⟨r.set i (.val d), m⟩ := id rfl
@[simp] theorem gsNil_ap : gsNil [] S = some S := id rfl
@[simp] theorem gsCons_ap {t : Tg} {ts : Tgs} {ds : List D} : gsCons t ts (d :: ds) S = (t d S).bind fun S1 => ts ds S1 := id rfl
@[simp] theorem gT_ap {ts : Tgs} {ds : List D} : gT ts (.tup ds) S = ts ds S := id rfl
@[simp] theorem sFor_ap {it : M (List D)} {t : Tg} : sFor it t p S = (it S).bnd fun items S1 => sForL t p items S1 := id rfl
@[simp] theorem mSl_ap {lo hi : MO} : mSl f lo hi S = (f S).bnd fun x S1 => (lo S1).bnd fun a S2 => (hi S2).bnd fun b S3 => oRes (fSl x.fz a b) S3 := id rfl
@[simp] theorem mSlL_ap {lo hi : MO} : mSlL i lo hi S = match peek S i with
  | none => .stk
  | some _ => (lo S).bnd fun lo S2 => (hi S2).bnd fun hi S3 => match peek S3 i with
    | none => .stk
    | some x => oRes (fSl x lo hi) S3 := id rfl
@[simp] theorem oNo_ap : oNo S = .ok none S := id rfl
@[simp] theorem oSo_ap : oSo f S = (f S).bnd fun dv S1 => match dv.fz with
  | .int i => .ok (some i) S1
  | _ => .stk := id rfl
end
/-! ### values -/
/-- an int as a text -/
def st (i : Int) : Str := Str.ofString (toString i)
section
variable {m : List Ob} {a b : Int} {x y : Str} {l l' : List D}
@[simp] theorem fOpAdd_int : fOpAdd m (.int a) (.int b) = some (.val (.int (a + b))) := id rfl
@[simp] theorem fOpSub_int : fOpSub m (.int a) (.int b) = some (.val (.int (a - b))) := id rfl
@[simp] theorem fOpAdd_str : fOpAdd m (.str x) (.str y) = if x.length + y.length ≤ sizeLine then some (.val (.str (x ++ y))) else none := id rfl
@[simp] theorem fOpAdd_tup : fOpAdd m (.tup l) (.tup l') = if l.length + l'.length ≤ sizeLine then some (.val (.tup (l ++ l'))) else none := id rfl
@[simp] theorem fOpAdd_lst : fOpAdd m (.lst l) (.lst l') = if l.length + l'.length ≤ sizeLine then some (.new (.lst (l ++ l'))) else none := id rfl
@[simp] theorem fOpMul_int : fOpMul m (.int a) (.int b) = if mulOk a b = true then some (.val (.int (a * b))) else none := id rfl
@[simp] theorem fOpDiv_int : fOpDiv m (.int a) (.int b) = if divOk b = true then some (.val (.int (a.fdiv b))) else none := id rfl
@[simp] theorem fOpMod_int : fOpMod m (.int a) (.int b) = if b ≠ 0 then some (.val (.int (a.fmod b))) else none := by
  show (if decide (b ≠ 0) = true then _ else _) = _
  simp
@[simp] theorem fNeg_int : fNeg m (.int a) = some (.val (.int (-a))) := id rfl
@[simp] theorem fLt_int : fLt m (.int a) (.int b) = some (.val (.bl (decide (a < b)))) := id rfl
@[simp] theorem fLe_int : fLe m (.int a) (.int b) = some (.val (.bl (decide (a ≤ b)))) := id rfl
@[simp] theorem fGt_int : fGt m (.int a) (.int b) = some (.val (.bl (decide (b < a)))) := id rfl
@[simp] theorem fGe_int : fGe m (.int a) (.int b) = some (.val (.bl (decide (b ≤ a)))) := id rfl
@[simp] theorem fIsN_non {d : D} : fIsN m d .non = some (.val (.bl (isNonD d))) := id rfl
@[simp] theorem fNotN_non {d : D} : fNotN m d .non = some (.val (.bl (!isNonD d))) := id rfl
@[simp] theorem fIsB_bl {p q : Bool} : fIsB m (.bl p) (.bl q) = some (.val (.bl (decide (p = q)))) := id rfl
@[simp] theorem fNotB_bl {p q : Bool} : fNotB m (.bl p) (.bl q) = some (.val (.bl (!decide (p = q)))) := id rfl
@[simp] theorem fIx_tup : fIx m (.tup l) (.int a) = (atI l a).map .val := id rfl
@[simp] theorem fIx_lst : fIx m (.lst l) (.int a) = (atI l a).map .val := id rfl
@[simp] theorem fIx_loc {n : Nat} : fIx m (.loc n) (.int a) = match m[n]? with
    | some (.lst l) => (atI l a).map .val
    | _ => none := id rfl
theorem atN {α : Type} {xs : List α} {n : Nat} : atI xs (n : Int) = xs[n]? := by
  unfold atI ixN
  rw [if_pos (Int.natCast_nonneg n)]
  by_cases h : n < xs.length
  · rw [if_pos (by exact_mod_cast h)]
    simp
  · rw [if_neg (by omega), List.getElem?_eq_none (by omega)]
    rfl
@[simp] theorem atI_0 {α : Type} {xs : List α} : atI xs 0 = xs[0]? := atN (n := 0)
@[simp] theorem atI_1 {α : Type} {xs : List α} : atI xs 1 = xs[1]? := atN (n := 1)
@[simp] theorem atI_2 {α : Type} {xs : List α} : atI xs 2 = xs[2]? := atN (n := 2)
@[simp] theorem atI_3 {α : Type} {xs : List α} : atI xs 3 = xs[3]? := atN (n := 3)
@[simp] theorem atI_4 {α : Type} {xs : List α} : atI xs 4 = xs[4]? := atN (n := 4)
theorem ixN_nat {n k : Nat} (h : k < n) : ixN n (k : Int) = some k := by
  unfold ixN
  rw [if_pos (by omega), if_pos (by omega)]
  simp
@[simp] theorem fLenA_tup : fLenA m (.tup l) = some (.val (.int l.length)) := id rfl
@[simp] theorem fLenA_lst : fLenA m (.lst l) = some (.val (.int l.length)) := id rfl
@[simp] theorem fLenA_frl : fLenA m (.frl l) = some (.val (.int l.length)) := id rfl
@[simp] theorem fLenA_dic {k : List (Key × D)} : fLenA m (.dic k) = some (.val (.int k.length)) := id rfl
@[simp] theorem fAbs_int : fAbs m (.int a) = some (.val (.int (if a < 0 then -a else a))) := id rfl
@[simp] theorem fInt_int : fInt m (.int a) = some (.val (.int a)) := id rfl
@[simp] theorem fInt_bl {k : Bool} : fInt m (.bl k) = some (.val (.int (if k then 1 else 0))) := id rfl
@[simp] theorem fStr_int : fStr m (.int a) = if a.natAbs.log2 < 1920 then some (.val (.str (st a))) else none := id rfl
@[simp] theorem fAll_lst : fAll m (.lst l) = (blsD l).map fun bs => .val (.bl (bs.all id)) := id rfl
@[simp] theorem fAny_lst : fAny m (.lst l) = (blsD l).map fun bs => .val (.bl (bs.any id)) := id rfl
@[simp] theorem fSum_lst : fSum m (.lst l) = (intsD l).map fun bs => .val (.int bs.sum) := id rfl
@[simp] theorem fTuple_lst : fTuple m (.lst l) = some (.val (.tup l)) := id rfl
@[simp] theorem fTuple_tup : fTuple m (.tup l) = some (.val (.tup l)) := id rfl
@[simp] theorem fList_lst : fList m (.lst l) = some (.new (.lst l)) := id rfl
@[simp] theorem fList_tup : fList m (.tup l) = some (.new (.lst l)) := id rfl
@[simp] theorem fMax2_int : fMax2 m [.int a, .int b] = some (.val (.int (if b > a then b else a))) := id rfl
@[simp] theorem fMin2_int : fMin2 m [.int a, .int b] = some (.val (.int (if b < a then b else a))) := id rfl
@[simp] theorem fSl_tup {lo hi : Option Int} : fSl (.tup l) lo hi = some (.val (.tup (cutD l lo hi))) := id rfl
@[simp] theorem fSl_lst {lo hi : Option Int} : fSl (.lst l) lo hi = some (.new (.lst (cutD l lo hi))) := id rfl
@[simp] theorem fSl_frl {lo hi : Option Int} : fSl (.frl l) lo hi = some (.new (.lst (cutD l lo hi))) := id rfl
end
/-! ### isinstance -/
def tyOf : D → String := tyD
theorem fIsi_of {m : List Ob} {d : D} {n : String} (h : knownT.contains (tyD d) = true) (h2 : knownT.contains n = true) : fIsi m [d, .ty n] = some (.val (.bl (isT (tyD d) n))) := by
  unfold fIsi
  simp only [h, h2, Bool.and_self, if_true]
/-! ### equality -/
/-- data whose depth is at most n -/
def D.q : Nat → D → Bool
  | _, .non => true
  | _, .bl _ => true
  | _, .int _ => true
  | _, .str x => PyData.canLay0 (.str x)
  | n + 1, .tup l => l.all (D.q n)
  | n + 1, .lst l => l.all (D.q n)
  | _, _ => false
theorem q_mono {n : Nat} : ∀ {d : D}, d.q n = true → d.q (n + 1) = true := by
  induction n with
  | zero =>
    intro d h
    cases d <;> first | exact h | (unfold D.q at h ⊢; cases h)
  | succ n ih =>
    intro d h
    cases d with
    | tup l =>
      unfold D.q at h ⊢
      exact List.all_eq_true.mpr fun x hx => ih (List.all_eq_true.mp h x hx)
    | lst l =>
      unfold D.q at h ⊢
      exact List.all_eq_true.mpr fun x hx => ih (List.all_eq_true.mp h x hx)
    | _ => first | exact h | (unfold D.q at h ⊢; cases h)
theorem q_le {n k : Nat} {d : D} (h : d.q n = true) (hk : n ≤ k) : d.q k = true := by
  induction hk with
  | refl => exact h
  | step _ ih => exact q_mono ih
theorem q_ok : ∀ {n : Nat} {d : D}, d.q n = true → d.plain = true ∧ PyData.canLay0 d.py = true ∧ d.py.depth ≤ n := by
  have all : ∀ (n : Nat), (∀ {d : D}, d.q n = true → d.plain = true ∧ PyData.canLay0 d.py = true ∧ d.py.depth ≤ n) → ∀ l : List D, l.all (D.q n) = true → D.plainL l = true ∧ PyData.canLayAll0 (D.pyL l) = true ∧ PyData.depthAll (D.pyL l) ≤ n := by
    intro n ih l
    induction l with
    | nil => intro _; exact ⟨rfl, by simp [D.pyL, PyData.canLayAll0], by simp [D.pyL, PyData.depthAll]⟩
    | cons d l il =>
      intro h
      rw [List.all_cons, Bool.and_eq_true] at h
      obtain ⟨h1, h2, h3⟩ := ih h.1
      obtain ⟨g1, g2, g3⟩ := il h.2
      refine ⟨by simp [D.plainL, h1, g1], by simp [D.pyL, PyData.canLayAll0, h2, g2], ?_⟩
      simp only [D.pyL, PyData.depthAll]
      omega
  intro n
  induction n with
  | zero =>
    intro d h
    cases d with
    | non => exact ⟨rfl, by simp [D.py, PyData.canLay0], by simp [D.py, PyData.depth]⟩
    | bl b => exact ⟨rfl, by simp [D.py, PyData.canLay0], by simp [D.py, PyData.depth]⟩
    | int i => exact ⟨rfl, by simp [D.py, PyData.canLay0], by simp [D.py, PyData.depth]⟩
    | str x => exact ⟨rfl, by simpa [D.py, D.q] using h, by simp [D.py, PyData.depth]⟩
    | _ => unfold D.q at h; cases h
  | succ n ih =>
    intro d h
    cases d with
    | non => exact ⟨rfl, by simp [D.py, PyData.canLay0], by simp [D.py, PyData.depth]⟩
    | bl b => exact ⟨rfl, by simp [D.py, PyData.canLay0], by simp [D.py, PyData.depth]⟩
    | int i => exact ⟨rfl, by simp [D.py, PyData.canLay0], by simp [D.py, PyData.depth]⟩
    | str x => exact ⟨rfl, by simpa [D.py, D.q] using h, by simp [D.py, PyData.depth]⟩
    | tup l =>
      unfold D.q at h
      obtain ⟨h1, h2, h3⟩ := all n ih l h
      exact ⟨by simpa [D.plain] using h1, by simpa [D.py, PyData.canLay0] using h2, by simp only [D.py, PyData.depth]; omega⟩
    | lst l =>
      unfold D.q at h
      obtain ⟨h1, h2, h3⟩ := all n ih l h
      exact ⟨by simpa [D.plain] using h1, by simpa [D.py, PyData.canLay0] using h2, by simp only [D.py, PyData.depth]; omega⟩
    | _ => unfold D.q at h; cases h
theorem okEq_q {a b : D} {n k : Nat} (ha : a.q n = true) (hb : b.q k = true) (hn : n ≤ 64 := by decide) (hk : k ≤ 64 := by decide) : okEq a b = true := by
  obtain ⟨a1, a2, a3⟩ := q_ok ha
  obtain ⟨b1, b2, b3⟩ := q_ok hb
  unfold okEq SeqAt.shaped
  rw [a1, b1, a2, b2, decide_eq_true (by omega), decide_eq_true (by omega)]
  rfl
theorem fEq_q {m : List Ob} {a b : D} {n k : Nat} (ha : a.q n = true) (hb : b.q k = true) (hn : n ≤ 64 := by decide) (hk : k ≤ 64 := by decide) : fEq m a b = some (.val (.bl (deq a b))) := by
  unfold fEq
  rw [if_pos (okEq_q ha hb hn hk)]
theorem fNe_q {m : List Ob} {a b : D} {n k : Nat} (ha : a.q n = true) (hb : b.q k = true) (hn : n ≤ 64 := by decide) (hk : k ≤ 64 := by decide) : fNe m a b = some (.val (.bl (!deq a b))) := by
  unfold fNe
  rw [if_pos (okEq_q ha hb hn hk)]
@[simp] theorem fEq_int {m : List Ob} {i j : Int} : fEq m (.int i) (.int j) = some (.val (.bl (decide (i = j)))) := by
  rw [fEq_q (n := 0) (k := 0) rfl rfl]
  simp only [deq, D.py, PyData.eqv]
  exact (decide_eq_decide.mpr Iff.rfl).symm ▸ rfl
@[simp] theorem fNe_int {m : List Ob} {i j : Int} : fNe m (.int i) (.int j) = some (.val (.bl (!decide (i = j)))) := by
  rw [fNe_q (n := 0) (k := 0) rfl rfl]
  simp only [deq, D.py, PyData.eqv]
  exact (decide_eq_decide.mpr Iff.rfl).symm ▸ rfl
/-- data without bools -/
def D.nb : Nat → D → Bool
  | _, .non => true
  | _, .int _ => true
  | _, .str _ => true
  | n + 1, .tup l => l.all (D.nb n)
  | n + 1, .lst l => l.all (D.nb n)
  | _, _ => false
mutual
theorem deq_refl : ∀ d : D, d.plain = true → deq d d = true
  | .non, _ => by simp [deq, D.py, PyData.eqv]
  | .bl b, _ => by simp [deq, D.py, PyData.eqv]
  | .int i, _ => by simp [deq, D.py, PyData.eqv]
  | .str x, _ => by simp [deq, D.py, PyData.eqv]
  | .tup l, h => by
    have := deqL_refl l (by simpa [D.plain] using h)
    simpa [deq, D.py, PyData.eqv] using this
  | .lst l, h => by
    have := deqL_refl l (by simpa [D.plain] using h)
    simpa [deq, D.py, PyData.eqv] using this
  | .dic _, h => by simp [D.plain] at h
  | .frl _, h => by simp [D.plain] at h
  | .loc _, h => by simp [D.plain] at h
  | .gl _, h => by simp [D.plain] at h
  | .ty _, h => by simp [D.plain] at h
theorem deqL_refl : ∀ l : List D, D.plainL l = true → PyData.eqvAll (D.pyL l) (D.pyL l) = true
  | [], _ => by simp [D.pyL, PyData.eqvAll]
  | d :: l, h => by
    simp only [D.plainL, Bool.and_eq_true] at h
    have h1 := deq_refl d h.1
    have h2 := deqL_refl l h.2
    unfold deq at h1
    simp [D.pyL, PyData.eqvAll, h1, h2]
end
@[simp] theorem deq_int {i j : Int} : deq (.int i) (.int j) = decide (i = j) := by
  simp only [deq, D.py, PyData.eqv]
  exact (decide_eq_decide.mpr Iff.rfl).symm ▸ rfl
@[simp] theorem deq_str {i j : Str} : deq (.str i) (.str j) = (i == j) := by simp [deq, D.py, PyData.eqv]
@[simp] theorem deq_bl {i j : Bool} : deq (.bl i) (.bl j) = (i == j) := by simp [deq, D.py, PyData.eqv]
theorem deq_tup {l l' : List D} : deq (.tup l) (.tup l') = PyData.eqvAll (D.pyL l) (D.pyL l') := by simp [deq, D.py, PyData.eqv]
theorem deq_lst {l l' : List D} : deq (.lst l) (.lst l') = PyData.eqvAll (D.pyL l) (D.pyL l') := by simp [deq, D.py, PyData.eqv]
@[simp] theorem deqL_nil : PyData.eqvAll (D.pyL []) (D.pyL []) = true := by simp [D.pyL, PyData.eqvAll]
@[simp] theorem deqL_cons {a b : D} {l l' : List D} : PyData.eqvAll (D.pyL (a :: l)) (D.pyL (b :: l')) = (deq a b && PyData.eqvAll (D.pyL l) (D.pyL l')) := by simp [D.pyL, PyData.eqvAll, deq]
theorem nb_deq : ∀ {n : Nat} {a b : D}, a.nb n = true → b.nb n = true → deq a b = true → a = b := by
  have all : ∀ n, (∀ {a b : D}, a.nb n = true → b.nb n = true → deq a b = true → a = b) → ∀ l l' : List D, l.all (D.nb n) = true → l'.all (D.nb n) = true → PyData.eqvAll (D.pyL l) (D.pyL l') = true → l = l' := by
    intro n ih l
    induction l with
    | nil =>
      intro l' _ _ h
      cases l' with
      | nil => rfl
      | cons b l' => simp [D.pyL, PyData.eqvAll] at h
    | cons a l il =>
      intro l' h1 h2 h
      cases l' with
      | nil => simp [D.pyL, PyData.eqvAll] at h
      | cons b l' =>
        rw [deqL_cons, Bool.and_eq_true] at h
        rw [List.all_cons, Bool.and_eq_true] at h1 h2
        rw [ih h1.1 h2.1 h.1, il l' h1.2 h2.2 h.2]
  intro n
  induction n with
  | zero =>
    intro a b ha hb h
    cases a <;> cases b <;> first
      | rfl
      | (exfalso; revert ha; exact Bool.false_ne_true)
      | (exfalso; revert hb; exact Bool.false_ne_true)
      | (exfalso; revert h; exact Bool.false_ne_true)
      | (rw [deq_int] at h; rw [of_decide_eq_true h])
      | (rw [deq_str] at h; rw [eq_of_beq h])
  | succ n ih =>
    intro a b ha hb h
    cases a <;> cases b <;> first
      | rfl
      | (exfalso; revert ha; exact Bool.false_ne_true)
      | (exfalso; revert hb; exact Bool.false_ne_true)
      | (exfalso; revert h; exact Bool.false_ne_true)
      | (rw [deq_int] at h; rw [of_decide_eq_true h])
      | (rw [deq_str] at h; rw [eq_of_beq h])
      | (unfold D.nb at ha hb
         first | rw [deq_tup] at h | rw [deq_lst] at h
         rw [all n ih _ _ ha hb h])
theorem deq_nb {n : Nat} {a b : D} (ha : a.nb n = true) (hb : b.nb n = true) (hp : a.plain = true) : deq a b = true ↔ a = b :=
  ⟨nb_deq ha hb, fun e => by rw [← e]; exact deq_refl a hp⟩
theorem q_ints {l : List Int} {n : Nat} : D.q (n + 1) (.tup (l.map D.int)) = true := by
  unfold D.q
  simp [List.all_map]
  intro x _
  cases n <;> rfl
@[simp] theorem sizeLine_val : sizeLine = 16777216 := id rfl
theorem cutD_map {α : Type} (enc : α → D) (l : List α) (lo hi : Option Int) : cutD (l.map enc) lo hi = ((l.drop (HT.sIx l.length 0 lo)).take (HT.sIx l.length l.length hi - HT.sIx l.length 0 lo)).map enc := by
  unfold cutD
  rw [List.length_map, List.map_take, List.map_drop]
@[simp] theorem wp1 {i : Nat} {r : List Sl} : wp [i] r = r.set i .no := id rfl
end DL
namespace DL
open PySem PySem.Spec PyProof.Rows L2
/-! ### fractions as pairs -/
def rD (x : Rat) : D := .tup [.int x.num, .int x.den]
theorem mkRat_D (t : Int) {b : Nat} (hb : 0 < b) : rD (mkRat t b) = .tup [.int (t / (Int.gcd t b : Int)), .int ((b : Int) / (Int.gcd t b : Int))] := by
  unfold rD
  rw [Rat.num_mkRat, Rat.den_mkRat, if_neg (by omega), if_neg (by omega)]
  have e : Int.gcd t b = b.gcd t.natAbs := by
    rw [Int.gcd, Int.natAbs_natCast, Nat.gcd_comm]
  rw [e]
  simp
def sm (n : Nat) (x : Rat) : Prop := x.num.natAbs < 2 ^ n ∧ x.den < 2 ^ n
theorem sm.le {n k : Nat} {x : Rat} (h : sm n x) (hk : n ≤ k) : sm k x :=
  ⟨Nat.lt_of_lt_of_le h.1 (Nat.pow_le_pow_right (by omega) hk), Nat.lt_of_lt_of_le h.2 (Nat.pow_le_pow_right (by omega) hk)⟩
theorem sm_mkRat {t : Int} {b n : Nat} (hb : 0 < b) (h1 : t.natAbs < 2 ^ n) (h2 : b < 2 ^ n) : sm n (mkRat t b) := by
  unfold sm
  rw [Rat.num_mkRat, Rat.den_mkRat, if_neg (by omega), if_neg (by omega)]
  refine ⟨Nat.lt_of_le_of_lt ?_ h1, Nat.lt_of_le_of_lt (Nat.div_le_self _ _) h2⟩
  exact Int.natAbs_ediv_le_natAbs _ _
theorem add_mk (x y : Rat) : x + y = mkRat (x.num * y.den + y.num * x.den) (x.den * y.den) := by
  rw [Rat.add_def, Rat.normalize_eq_mkRat]
theorem mul_mk (x y : Rat) : x * y = mkRat (x.num * y.num) (x.den * y.den) := by
  rw [Rat.mul_def, Rat.normalize_eq_mkRat]
theorem mul2 {a b : Nat} {n k : Nat} (h1 : a < 2 ^ n) (h2 : b < 2 ^ k) : a * b < 2 ^ (n + k) := by
  rw [Nat.pow_add]
  exact Nat.mul_lt_mul'' h1 h2
theorem sm_mul {x y : Rat} {n k : Nat} (hx : sm n x) (hy : sm k y) : sm (n + k) (x * y) := by
  rw [mul_mk]
  refine sm_mkRat (Nat.mul_pos x.den_pos y.den_pos) ?_ (mul2 hx.2 hy.2)
  rw [Int.natAbs_mul]
  exact mul2 hx.1 hy.1
theorem sm_add {x y : Rat} {n k : Nat} (hx : sm n x) (hy : sm k y) : sm (n + k + 1) (x + y) := by
  rw [add_mk]
  have a1 := mul2 hx.1 hy.2
  have a2 := mul2 hy.1 hx.2
  refine sm_mkRat (Nat.mul_pos x.den_pos y.den_pos) (Nat.lt_of_le_of_lt (Int.natAbs_add_le _ _) ?_) (Nat.lt_of_lt_of_le (mul2 hx.2 hy.2) (Nat.pow_le_pow_right (by omega) (by omega)))
  rw [Int.natAbs_mul, Int.natAbs_mul, Int.natAbs_natCast, Int.natAbs_natCast]
  rw [Nat.add_comm k n] at a2
  rw [Nat.pow_succ]
  omega
theorem sm_neg {x : Rat} {n : Nat} (hx : sm n x) : sm n (-x) := by
  unfold sm
  rw [Rat.neg_num, Rat.neg_den, Int.natAbs_neg]
  exact hx
theorem neg_D (x : Rat) : rD (-x) = .tup [.int (0 - x.num), .int x.den] := by
  unfold rD
  rw [Rat.neg_num, Rat.neg_den, Int.zero_sub]
theorem div_mk (x y : Rat) (hy : 0 < y.num) : x / y = mkRat (x.num * y.den) (x.den * y.num.toNat) := by
  have e : y⁻¹ = mkRat y.den y.num.toNat := by
    have h1 : y = mkRat y.num y.den := (Rat.mkRat_self y).symm
    have h2 : (y.num.toNat : Int) = y.num := by omega
    rw [Rat.inv_def, ← h2, Rat.divInt_ofNat, h2]
  rw [Rat.div_def, e]
  conv => lhs; rw [← Rat.mkRat_self x]
  rw [Rat.mkRat_mul_mkRat]
theorem mulOk_b {i j : Int} {a b : Nat} (hi : i.natAbs < 2 ^ a) (hj : j.natAbs < 2 ^ b) (h : a + b ≤ 1000000) : mulOk i j = true := by
  refine mulOk_of (show MulP i j from .inr ?_)
  have f : ∀ {x : Int} {n : Nat}, x.natAbs < 2 ^ n → x.natAbs.log2 < n ∨ x.natAbs.log2 = 0 := fun {x n} hx => by
    by_cases h0 : x.natAbs = 0
    · rw [h0]; exact .inr (by decide)
    · exact .inl ((Nat.log2_lt h0).mpr hx)
  rcases f hi with h1 | h1 <;> rcases f hj with h2 | h2 <;> omega
/-- the loop for the greatest common divisor, as it runs -/
theorem fmod_nat (a b : Nat) : (a : Int).fmod b = ((a % b : Nat) : Int) := by
  rw [Int.fmod_eq_emod_of_nonneg _ (Int.natCast_nonneg _)]
  rfl
theorem fdiv_nat (a b : Nat) : (a : Int).fdiv b = ((a / b : Nat) : Int) := by
  rw [Int.fdiv_eq_ediv_of_nonneg _ (Int.natCast_nonneg _)]
  rfl
theorem abs_nat (x : Int) : (if x < 0 then -x else x) = (x.natAbs : Int) := by split <;> omega
theorem gcd_step (a b : Nat) : Nat.gcd b (a % b) = Nat.gcd a b := by
  rw [Nat.gcd_comm a b, Nat.gcd_rec b a, Nat.gcd_comm]
/-- a while that takes the greatest common divisor -/
theorem gcd_loop {c : M Bool} {b : M Fl} (st : Nat → Nat → Sta) (h0 : ∀ x, c (st x 0) = .ok false (st x 0)) (h1 : ∀ x y, 0 < y → c (st x y) = .ok true (st x y)) (h2 : ∀ x y, 0 < y → b (st x y) = .ok .nx (st y (x % y))) :
    ∀ (n x y : Nat), y ≤ n → sWh c b (st x y) = .ok .nx (st (Nat.gcd x y) 0) := by
  intro n
  induction n with
  | zero =>
    intro x y h
    obtain rfl : y = 0 := by omega
    rw [sWh_false (h0 x), Nat.gcd_zero_right]
  | succ n ih =>
    intro x y h
    by_cases hy : y = 0
    · subst hy
      rw [sWh_false (h0 x), Nat.gcd_zero_right]
    · have hp : 0 < y := by omega
      rw [sWh_true (h1 x y hp) (h2 x y hp), ih y (x % y) (by have := Nat.mod_lt x hp; omega), gcd_step]
end DL
namespace DL
open PySem PySem.Spec PyProof.Rows L2
/-! ### texts that may be compared -/
def okStr (x : Str) : Prop := PyData.canLay0 (.str x) = true
theorem okStr_all {x : Str} : okStr x ↔ ∀ c ∈ x.cps.toList, c < 1114112 := by
  unfold okStr
  simp [PyData.canLay0, PyData.strOk, Array.all_eq_true]
  exact ⟨fun h c hc => by
    obtain ⟨i, hi, e⟩ := Array.mem_iff_getElem.mp hc
    rw [← e]; exact h i hi, fun h i hi => h _ (Array.getElem_mem hi)⟩
theorem okStr_of (s : String) : okStr (Str.ofString s) := by
  rw [okStr_all, Str.ofString_eq_toList]
  intro c hc
  obtain ⟨ch, _, rfl⟩ := List.mem_map.mp (by simpa using hc)
  have := ch.valid
  rcases this with h | h
  · have : ch.toNat < 0xd800 := h
    omega
  · have : ch.toNat < 0x110000 := h.2
    omega
theorem okStr_append {x y : Str} (hx : okStr x) (hy : okStr y) : okStr (x ++ y) := by
  rw [okStr_all] at *
  intro c hc
  have : c ∈ x.cps.toList ++ y.cps.toList := by
    have e : (x ++ y).cps = x.cps ++ y.cps := rfl
    rw [e, Array.toList_append] at hc
    exact hc
  rcases List.mem_append.mp this with h | h
  · exact hx c h
  · exact hy c h
theorem okStr_join {a : Str} (ha : okStr a) : ∀ {l : List Str}, (∀ x ∈ l, okStr x) → okStr (Txt.join a l) := by
  intro l hl
  have key : ∀ (ps : List Str) (acc : Array Nat), (∀ x ∈ ps, okStr x) → (∀ c ∈ acc.toList, c < 1114112) → ∀ c ∈ (ps.foldl (fun acc p => acc ++ a.cps ++ p.cps) acc).toList, c < 1114112 := by
    intro ps
    induction ps with
    | nil => intro acc _ h; exact h
    | cons p ps ih =>
      intro acc h1 h2
      rw [List.foldl_cons]
      refine ih _ (fun x hx => h1 x (List.mem_cons_of_mem _ hx)) fun c hc => ?_
      rw [Array.toList_append, Array.toList_append] at hc
      rcases List.mem_append.mp hc with h | h
      · rcases List.mem_append.mp h with h | h
        · exact h2 c h
        · exact okStr_all.mp ha c h
      · exact okStr_all.mp (h1 p (List.mem_cons_self ..)) c h
  rw [okStr_all]
  show ∀ c ∈ ((l.drop 1).foldl (fun acc p => acc ++ a.cps ++ p.cps) (l.headD Str.empty).cps).toList, c < 1114112
  refine key _ _ (fun x hx => hl x (List.mem_of_mem_drop hx)) ?_
  cases l with
  | nil => intro c hc; simp [Str.empty] at hc
  | cons x l => exact okStr_all.mp (hl x (List.mem_cons_self ..))
@[simp] theorem fEq_str {m : List Ob} {x y : Str} (hx : okStr x) (hy : okStr y) : fEq m (.str x) (.str y) = some (.val (.bl (x == y))) := by
  rw [fEq_q (a := .str x) (b := .str y) (n := 0) (k := 0) hx hy, deq_str]
theorem fNe_str {m : List Ob} {x y : Str} (hx : okStr x) (hy : okStr y) : fNe m (.str x) (.str y) = some (.val (.bl (!(x == y)))) := by
  rw [fNe_q (a := .str x) (b := .str y) (n := 0) (k := 0) hx hy, deq_str]
/-- ints, texts, tuples of them, n deep -/
def D.tq : Nat → D → Prop
  | _, .int _ => True
  | _, .str x => okStr x
  | n + 1, .tup l => l.length ≤ 1000 ∧ ∀ d ∈ l, D.tq n d
  | _, _ => False
theorem zipD_self : ∀ l : List D, zipD l l = l.map fun d => .tup [d, d]
  | [] => rfl
  | d :: l => by rw [zipD, zipD_self l]; rfl
theorem blsD_true : ∀ l : List D, blsD (l.map fun _ => D.bl true) = some (l.map fun _ => true)
  | [] => rfl
  | d :: l => by simp [blsD, blsD_true l]
end DL
namespace DL
open PySem PySem.Spec PyProof.Rows L2
/-! ### repr, of an empty dict as well -/
section
variable {X : Cx}
theorem cr_reprE (hgd : X.A.guards = some []) (hu : X.A.units + 64 < cLine) : CallR X (.builtin "repr") (fun xs H Q => ∃ a, xs = [V.ref a] ∧ H a = some (.dK []) ∧ Q (.str ((PyData.dict []).shown)) H) := by
  intro pins s σ H xs us Q I r h
  obtain ⟨a, rfl, ha, q⟩ := h
  obtain ⟨u, rfl, ru⟩ := vals1 r
  cases ru
  obtain ⟨_, hsm, vs, hkv, o, es, ep, hg, hx, hd, _, hp, _⟩ := I.hok a _ ha
  cases hkv
  have he : es.toList = [] := by
    generalize es.toList = L at hp
    cases hp
    rfl
  have rd : Reads s.heap (.ref a) (.dict []) (a :: [] ++ []) := .dict hg hx.1 hd (by rw [he]; exact .nil) (by rw [he]; exact .nil)
  refine repr_of_reads' rd (by decide) (fun _ z => ?_) hgd (by simp [PyData.depth, PyData.depthKv]; omega) (fun _ _ e => e) (fun h' tk u hk => ⟨.str _, H, I.kept hk, ⟨_, rfl⟩, q⟩) (by decide)
  have z2 : sysModules = a := by simpa using z
  rw [← z2] at hsm
  simp at hsm
def fReprE : List Ob → D → Option DV := fun m x => match x with
  | .dic [] => some (.val (.str ((PyData.dict []).shown)))
  | x => fRepr m x
theorem cr_reprA (hgd : X.A.guards = some []) (hu : X.A.units + 64 < cLine) : CallR X (.builtin "repr") (fun xs H Q => rRepr X.K xs H Q ∨ ∃ a, xs = [V.ref a] ∧ H a = some (.dK []) ∧ Q (.str ((PyData.dict []).shown)) H) := CallR.or (cr_repr hgd hu) (cr_reprE hgd hu)
theorem oq_reprA : OCq X (fun xs H Q => rRepr X.K xs H Q ∨ ∃ a, xs = [V.ref a] ∧ H a = some (.dK []) ∧ Q (.str ((PyData.dict []).shown)) H) fReprE := fun w S σ H x a dv Q R q e h3 => by
  unfold fReprE at e
  split at e
  · cases e
    obtain ⟨p, xs, ex, h1, r1⟩ := q.dic
    subst ex
    cases r1
    exact .inr ⟨p, rfl, h1, h3.here R (.str _)⟩
  · exact .inl (oq_repr w S σ H x _ dv Q R q e h3)
end
@[simp] theorem fReprE_dic {m : List Ob} : fReprE m (.dic []) = some (.val (.str (PyData.dict []).shown)) := id rfl
/-- small data that may be shown -/
def D.rp : Nat → D → Prop
  | _, .non => True
  | _, .bl _ => True
  | _, .int i => i.natAbs < 10 ^ 12
  | _, .str x => okStr x ∧ okStr (reprText x)
  | n + 1, .tup l => ∀ d ∈ l, D.rp n d
  | n + 1, .lst l => ∀ d ∈ l, D.rp n d
  | _, _ => False
theorem okStr_join2 {s : Str} (hs : okStr s) : ∀ {l : List Str}, (∀ x ∈ l, okStr x) → okStr (Str.join s l)
  | [], _ => okStr_all.mpr fun c hc => by simp [Str.join, Str.empty] at hc
  | [x], h => h x (List.mem_cons_self ..)
  | x :: y :: r, h => okStr_append (okStr_append (h x (List.mem_cons_self ..)) hs) (okStr_join2 hs fun z hz => h z (List.mem_cons_of_mem _ hz))
theorem okStr_from : ∀ {l : List Str} {k : Nat} {acc : Str}, okStr acc → (∀ x ∈ l, okStr x) → okStr (textFrom k acc l)
  | [], _, _, h, _ => h
  | x :: l, k, acc, h, hs => by
    unfold textFrom
    exact okStr_from (okStr_append (okStr_append h (okStr_of _)) (hs x (List.mem_cons_self ..))) fun z hz => hs z (List.mem_cons_of_mem _ hz)
theorem log12 {i : Int} (h : i.natAbs < 10 ^ 12) : i.natAbs.log2 < 1920 := by
  by_cases h0 : i.natAbs = 0
  · rw [h0]; decide
  · exact Nat.lt_trans ((Nat.log2_lt h0).mpr (Nat.lt_trans h (by decide : 10 ^ 12 < 2 ^ 40))) (by decide)
theorem rp_shown : ∀ {n : Nat} {d : D}, D.rp n d → d.plain = true ∧ d.py.showable = true ∧ d.py.depth ≤ n ∧ d.py.leavesShort 13 = true ∧ okStr d.py.shown := by
  have chars : ∀ {x : Str}, okStr x → (x.cps.toList.all fun c => decide (c < 16 ^ 8)) = true := fun h => List.all_eq_true.mpr fun c hc => decide_eq_true (Nat.lt_trans (okStr_all.mp h c hc) (by decide))
  have all : ∀ (n : Nat), (∀ {d : D}, D.rp n d → d.plain = true ∧ d.py.showable = true ∧ d.py.depth ≤ n ∧ d.py.leavesShort 13 = true ∧ okStr d.py.shown) → ∀ l : List D, (∀ d ∈ l, D.rp n d) →
      D.plainL l = true ∧ PyData.showableAll (D.pyL l) = true ∧ PyData.depthAll (D.pyL l) ≤ n ∧ PyData.leavesShortAll 13 (D.pyL l) = true ∧ ∀ x ∈ PyData.shownAll (D.pyL l), okStr x := by
    intro n ih l
    induction l with
    | nil => intro _; exact ⟨rfl, by simp [D.pyL, PyData.showableAll], by simp [D.pyL, PyData.depthAll], by simp [D.pyL, PyData.leavesShortAll], by simp [D.pyL, PyData.shownAll]⟩
    | cons d l il =>
      intro h
      obtain ⟨a1, a2, a3, a4, a5⟩ := ih (h d (List.mem_cons_self ..))
      obtain ⟨b1, b2, b3, b4, b5⟩ := il fun x hx => h x (List.mem_cons_of_mem _ hx)
      refine ⟨by simp [D.plainL, a1, b1], by simp [D.pyL, PyData.showableAll, a2, b2], ?_, by simp [D.pyL, PyData.leavesShortAll, a4, b4], ?_⟩
      · simp only [D.pyL, PyData.depthAll]; omega
      · intro x hx
        simp only [D.pyL, PyData.shownAll, List.mem_cons] at hx
        rcases hx with rfl | hx
        · exact a5
        · exact b5 x hx
  have base : ∀ (n : Nat) (d : D), D.rp n d → (∀ l, d ≠ .tup l) → (∀ l, d ≠ .lst l) → d.plain = true ∧ d.py.showable = true ∧ d.py.depth ≤ n ∧ d.py.leavesShort 13 = true ∧ okStr d.py.shown := by
    intro n d h n1 n2
    cases d with
    | non => exact ⟨rfl, by simp [D.py, PyData.showable], by simp [D.py, PyData.depth], by simp [D.py, PyData.leavesShort], by simp only [D.py, PyData.shown]; exact okStr_of _⟩
    | bl b => exact ⟨rfl, by simp [D.py, PyData.showable], by simp [D.py, PyData.depth], by simp [D.py, PyData.leavesShort], by simp only [D.py, PyData.shown]; split <;> exact okStr_of _⟩
    | int i =>
      have h' : i.natAbs < 10 ^ 12 := by unfold D.rp at h; exact h
      exact ⟨rfl, by simp only [D.py, PyData.showable]; exact decide_eq_true (log12 h'), by simp [D.py, PyData.depth], by simp only [D.py, PyData.leavesShort]; exact decide_eq_true (PyData.shown_int_le h'), by simp only [D.py, PyData.shown]; exact okStr_of _⟩
    | str x =>
      have h' : okStr x ∧ okStr (reprText x) := by unfold D.rp at h; exact h
      exact ⟨rfl, by simp [D.py, PyData.showable], by simp [D.py, PyData.depth], by simp only [D.py, PyData.leavesShort]; exact chars h'.1, by simp only [D.py, PyData.shown]; exact h'.2⟩
    | tup l => exact absurd rfl (n1 l)
    | lst l => exact absurd rfl (n2 l)
    | _ => unfold D.rp at h; exact h.elim
  intro n
  induction n with
  | zero =>
    intro d h
    refine base 0 d h (fun l e => ?_) (fun l e => ?_) <;> subst e <;> unfold D.rp at h <;> exact h
  | succ n ih =>
    intro d h
    cases d with
    | tup l =>
      unfold D.rp at h
      obtain ⟨a1, a2, a3, a4, a5⟩ := all n ih l h
      refine ⟨by simpa [D.plain] using a1, by simpa [D.py, PyData.showable] using a2, by simp only [D.py, PyData.depth]; omega, by simpa [D.py, PyData.leavesShort] using a4, ?_⟩
      simp only [D.py, PyData.shown, tupleText]
      refine okStr_append (okStr_append (okStr_of _) (okStr_join2 (okStr_of _) a5)) ?_
      exact okStr_of _
    | lst l =>
      unfold D.rp at h
      obtain ⟨a1, a2, a3, a4, a5⟩ := all n ih l h
      refine ⟨by simpa [D.plain] using a1, by simpa [D.py, PyData.showable] using a2, by simp only [D.py, PyData.depth]; omega, by simpa [D.py, PyData.leavesShort] using a4, ?_⟩
      simp only [D.py, PyData.shown, listText]
      exact okStr_append (okStr_from (okStr_of _) a5) (okStr_of _)
    | _ => exact base _ _ h (fun l e => nomatch e) (fun l e => nomatch e)
theorem rp_repr {m : List Ob} {n : Nat} {d : D} (h : D.rp n d) (hb : d.py.bulk ≤ 1048576) (hn : n ≤ 60 := by decide) : ∃ s, fReprE m d = some (.val (.str s)) ∧ okStr s := by
  obtain ⟨a1, a2, a3, a4, a5⟩ := rp_shown h
  have hl := PyData.shown_fits_bulk (by decide) (by decide) a4 (by simpa using hb)
  refine ⟨d.py.shown, ?_, a5⟩
  have e : fReprE m d = fRepr m d := by
    cases d with
    | dic l => cases n <;> (unfold D.rp at h; exact h.elim)
    | _ => rfl
  rw [e]
  unfold fRepr okRepr
  rw [if_pos]
  rw [a1, a2, decide_eq_true (by omega : d.py.depth ≤ 60), decide_eq_true hl]
  rfl
end DL
namespace W
open PySem PySem.Spec PyProof.Rows L2 DL
/-! ### the text -/
def top (i : Nat) : Stmt := PySem.Challenge.pw_fewskies_k65_whole_digits_that_end_or_st.main.body.getD i (.Pass ⟨0, 0, 0, 0⟩)
abbrev FnP (K : PySem.W.Frag) (x : Str) (st : Stmt) (f : Addr) (fd : FuncData) : Prop := FunD K x x (defArgs st) (defBody st) (defScope st) [] [] f fd
/-! is_integer -/
abbrev s_is_integer : Stmt := top 1
theorem sc_is_integer : FnScope ["thing"] ["thing"] (defScope s_is_integer) := ⟨rfl, rfl, rfl, by decide +kernel, rfl, by decide +kernel, by decide +kernel⟩
noncomputable def b_is_integer : M Fl := sSeq (sRet (mAndV (mCB fIsi (mACons (mVar 0) (mACons (mC (.ty "int")) (mANil)))) (mNotV (mCB fIsi (mACons (mVar 0) (mACons (mC (.ty "bool")) (mANil))))))) (sSkip)
noncomputable def F_is_integer : Fun := bodyF 1 b_is_integer
theorem g_is_integer {P : Program} {wo : World} {K : PySem.W.Frag} {mg : Str → Option Value} {base : Heap} {f : Addr} {fd : FuncData} (D : FnP K "is_integer" s_is_integer f fd) (m_isinstance : mg "isinstance" = none) (m_bool : mg "bool" = none) (m_int : mg "int" = none) : FnG P wo K mg base 1 f fd ["thing"] F_is_integer := by
  obtain ⟨oc, od, dV, kV, doc, pm, an, cdv, ct, osl, rfl, lk, hcd, _, _⟩ := D.ex
  have sc := sc_is_integer
  refine fnG_of (k := 0) (n := 1) (F := b_is_integer) lk hcd sc rfl fun A outer s H E hr hgd => ?_
  exact dss_cons (ds_ret (de_and (de_bN call_isi oc_isi rfl m_isinstance rfl (da_cons (de_var (pv 0)) (da_cons (de_ty rfl m_int rfl) (da_nil)))) (de_one (de_not (de_bN call_isi oc_isi rfl m_isinstance rfl (da_cons (de_var (pv 0)) (da_cons (de_ty rfl m_bool rfl) (da_nil)))))))) (dss_nil)
/-! is_within -/
abbrev s_is_within : Stmt := top 2
theorem sc_is_within : FnScope ["thing", "low", "high"] ["thing", "low", "high"] (defScope s_is_within) := ⟨rfl, rfl, rfl, by decide +kernel, rfl, by decide +kernel, by decide +kernel⟩
noncomputable def b_is_within : M Fl := sSeq (sRet (mAndV (mFn F_is_integer (mACons (mVar 0) (mANil))) (mChain fLe fLe (mVar 1) (mVar 0) (mVar 2)))) (sSkip)
noncomputable def F_is_within : Fun := bodyF 3 b_is_within
theorem g_is_within {P : Program} {wo : World} {K : PySem.W.Frag} {mg : Str → Option Value} {base : Heap} {f : Addr} {fd : FuncData} (D : FnP K "is_within" s_is_within f fd) (c_is_integer : CalG P wo K mg base 1 1 "is_integer" F_is_integer) : FnG P wo K mg base 2 f fd ["thing", "low", "high"] F_is_within := by
  obtain ⟨oc, od, dV, kV, doc, pm, an, cdv, ct, osl, rfl, lk, hcd, _, _⟩ := D.ex
  have sc := sc_is_within
  refine fnG_of (k := 1) (n := 3) (F := b_is_within) lk hcd sc rfl fun A outer s H E hr hgd => ?_
  exact dss_cons (ds_ret (de_and (de_call c_is_integer (hr.mono (by first | decide | omega)) hgd (takes_of rfl rfl rfl rfl) rfl (da_cons (de_var (pv 0)) (da_nil)) (hal := (mACons_len mANil_len))) (de_one (de_chain op_leD op_leD o_le o_le (de_var (pv 1)) (de_var (pv 0)) (de_var (pv 2)))))) (dss_nil)
/-! is_tuple -/
abbrev s_is_tuple : Stmt := top 3
theorem sc_is_tuple : FnScope ["thing", "least", "most"] ["thing", "least", "most"] (defScope s_is_tuple) := ⟨rfl, rfl, rfl, by decide +kernel, rfl, by decide +kernel, by decide +kernel⟩
noncomputable def b_is_tuple : M Fl := sSeq (sRet (mAndV (mCB fIsi (mACons (mVar 0) (mACons (mC (.ty "tuple")) (mANil)))) (mChain fLe fLe (mVar 1) (mOp1L fLenA 0) (mVar 2)))) (sSkip)
noncomputable def F_is_tuple : Fun := bodyF 3 b_is_tuple
theorem g_is_tuple {P : Program} {wo : World} {K : PySem.W.Frag} {mg : Str → Option Value} {base : Heap} {f : Addr} {fd : FuncData} (D : FnP K "is_tuple" s_is_tuple f fd) (m_len : mg "len" = none) (m_isinstance : mg "isinstance" = none) (m_tuple : mg "tuple" = none) : FnG P wo K mg base 1 f fd ["thing", "least", "most"] F_is_tuple := by
  obtain ⟨oc, od, dV, kV, doc, pm, an, cdv, ct, osl, rfl, lk, hcd, _, _⟩ := D.ex
  have sc := sc_is_tuple
  refine fnG_of (k := 0) (n := 3) (F := b_is_tuple) lk hcd sc rfl fun A outer s H E hr hgd => ?_
  exact dss_cons (ds_ret (de_and (de_bN call_isi oc_isi rfl m_isinstance rfl (da_cons (de_var (pv 0)) (da_cons (de_ty rfl m_tuple rfl) (da_nil)))) (de_one (de_chain op_leD op_leD o_le o_le (de_var (pv 1)) (de_b1L cr_lenA oq_lenA rfl m_len rfl (pv 0)) (de_var (pv 2)))))) (dss_nil)
/-! divisor -/
abbrev s_divisor : Stmt := top 10
theorem sc_divisor : FnScope ["one", "other"] ["one", "other"] (defScope s_divisor) := ⟨rfl, rfl, rfl, by decide +kernel, rfl, by decide +kernel, by decide +kernel⟩
noncomputable def wc1_divisor : M Bool := mB (mOp2L fNe 1 (mC (.int 0)))
noncomputable def wb1_divisor : M Fl := sSeq (sPar2 0 1 (mVar 1) (mOp2L fOpMod 0 (mVar 1))) (sSkip)
noncomputable def b_divisor : M Fl := sSeq (sPar2 0 1 (mOp1L fAbs 0) (mOp1L fAbs 1)) (sSeq (sWh wc1_divisor wb1_divisor) (sSeq (sRet (mVar 0)) (sSkip)))
noncomputable def F_divisor : Fun := bodyF 2 b_divisor
theorem g_divisor {P : Program} {wo : World} {K : PySem.W.Frag} {mg : Str → Option Value} {base : Heap} {f : Addr} {fd : FuncData} (D : FnP K "divisor" s_divisor f fd) (m_abs : mg "abs" = none) : FnG P wo K mg base 1 f fd ["one", "other"] F_divisor := by
  obtain ⟨oc, od, dV, kV, doc, pm, an, cdv, ct, osl, rfl, lk, hcd, _, _⟩ := D.ex
  have sc := sc_divisor
  refine fnG_of (k := 0) (n := 2) (F := b_divisor) lk hcd sc rfl fun A outer s H E hr hgd => ?_
  exact dss_cons (ds_par2 (i := 0) (j := 1) rfl sc.nd rfl rfl (by decide) rfl rfl (de_b1L call_abs oq_abs rfl m_abs rfl (pv 0)) (de_b1L call_abs oq_abs rfl m_abs rfl (pv 1)) rfl) (dss_cons (ds_while (passes_of rfl) (t_neL hr.units (pv 1) (de_int)) (dss_cons (ds_par2 (i := 0) (j := 1) rfl sc.nd rfl rfl (by decide) rfl rfl (de_var (pv 1)) (d_modL (pv 0) (de_var (pv 1))) rfl) (dss_nil))) (dss_cons (ds_ret (de_var (pv 0))) (dss_nil)))
/-! reduced -/
abbrev s_reduced : Stmt := top 11
theorem sc_reduced : FnScope ["top", "bottom", "low", "sign"] ["top", "bottom"] (defScope s_reduced) := ⟨rfl, rfl, rfl, by decide +kernel, rfl, by decide +kernel, by decide +kernel⟩
noncomputable def b_reduced : M Fl := sSeq (sAsg 2 (mFn F_divisor (mACons (mVar 0) (mACons (mVar 1) (mANil))))) (sSeq (sAsg 3 (mIf (mB (mOp2L fGt 1 (mC (.int 0)))) (mC (.int 1)) (mOp1 fNeg (mC (.int 1))))) (sSeq (sRet (mTup (mACons (mOp2 fOpDiv (mOp2L fOpMul 3 (mVar 0)) (mVar 2)) (mACons (mOp2 fOpDiv (mOp2L fOpMul 3 (mVar 1)) (mVar 2)) (mANil))))) (sSkip)))
noncomputable def F_reduced : Fun := bodyF 4 b_reduced
theorem g_reduced {P : Program} {wo : World} {K : PySem.W.Frag} {mg : Str → Option Value} {base : Heap} {f : Addr} {fd : FuncData} (D : FnP K "reduced" s_reduced f fd) (c_divisor : CalG P wo K mg base 1 2 "divisor" F_divisor) : FnG P wo K mg base 2 f fd ["top", "bottom"] F_reduced := by
  obtain ⟨oc, od, dV, kV, doc, pm, an, cdv, ct, osl, rfl, lk, hcd, _, _⟩ := D.ex
  have sc := sc_reduced
  refine fnG_of (k := 1) (n := 4) (F := b_reduced) lk hcd sc rfl fun A outer s H E hr hgd => ?_
  exact dss_cons (ds_asg (i := 2) sc.nd rfl (Or.inl rfl) (de_call c_divisor (hr.mono (by first | decide | omega)) hgd (takes_of rfl rfl rfl rfl) rfl (da_cons (de_var (pv 0)) (da_cons (de_var (pv 1)) (da_nil))) (hal := (mACons_len (mACons_len mANil_len))))) (dss_cons (ds_asg (i := 3) sc.nd rfl (Or.inl rfl) (de_if (t_gtL (pv 1) (de_int)) (de_int) (d_neg (de_int)))) (dss_cons (ds_ret (de_tup (da_cons (d_div (d_mulL (pv 3) (de_var (pv 0))) (de_var (pv 2))) (da_cons (d_div (d_mulL (pv 3) (de_var (pv 1))) (de_var (pv 2))) (da_nil))))) (dss_nil)))
/-! is_fraction -/
abbrev s_is_fraction : Stmt := top 12
theorem sc_is_fraction : FnScope ["thing", "one"] ["thing"] (defScope s_is_fraction) := ⟨rfl, rfl, rfl, by decide +kernel, rfl, by decide +kernel, by decide +kernel⟩
noncomputable def ce1_is_fraction : M DV := mAndV (mCB fIsi (mACons (mVar 1) (mACons (mC (.ty "int")) (mANil)))) (mNotV (mCB fIsi (mACons (mVar 1) (mACons (mC (.ty "bool")) (mANil)))))
noncomputable def b_is_fraction : M Fl := sSeq (sIf (mOr (mNot (mB (mFn F_is_tuple (mACons (mVar 0) (mACons (mC (.int 2)) (mACons (mC (.int 2)) (mANil))))))) (mNot (mB (mOp1 fAll (mLc (iSeq (mVar 0)) [1] (gV 1) mYes ce1_is_fraction))))) (sSeq (sRet (mC (.bl false))) (sSkip)) (sSkip)) (sSeq (sRet (mAndV (mOp2 fGt (mOp2L fIx 0 (mC (.int 1))) (mC (.int 0))) (mOp2 fEq (mFn F_reduced (mACons (mOp2L fIx 0 (mC (.int 0))) (mACons (mOp2L fIx 0 (mC (.int 1))) (mANil)))) (mVar 0)))) (sSkip))
noncomputable def F_is_fraction : Fun := bodyF 2 b_is_fraction
theorem g_is_fraction {P : Program} {wo : World} {K : PySem.W.Frag} {mg : Str → Option Value} {base : Heap} {f : Addr} {fd : FuncData} (D : FnP K "is_fraction" s_is_fraction f fd) (c_is_tuple : CalG P wo K mg base 1 3 "is_tuple" F_is_tuple) (c_reduced : CalG P wo K mg base 2 2 "reduced" F_reduced) (m_all : mg "all" = none) (m_isinstance : mg "isinstance" = none) (m_bool : mg "bool" = none) (m_int : mg "int" = none) : FnG P wo K mg base 3 f fd ["thing"] F_is_fraction := by
  obtain ⟨oc, od, dV, kV, doc, pm, an, cdv, ct, osl, rfl, lk, hcd, _, _⟩ := D.ex
  have sc := sc_is_fraction
  refine fnG_of (k := 2) (n := 2) (F := b_is_fraction) lk hcd sc rfl fun A outer s H E hr hgd => ?_
  exact dss_cons (ds_if (PW.pt (dw_or (dt_not (dt_val (de_call c_is_tuple (hr.mono (by first | decide | omega)) hgd (takes_of rfl rfl rfl rfl) rfl (da_cons (de_var (pv 0)) (da_cons (de_int) (da_cons (de_int) (da_nil)))) (hal := (mACons_len (mACons_len (mACons_len mANil_len))))))) (dw_or1 (dt_not (dt_val (de_b1 (cr_all rfl) oq_all rfl m_all rfl (de_lc rfl rfl sc.nd (di_seq (de_var (pv 0))) (blkOk_by (own := [("one", 1)]) (N := ["thing", "one"]) (sc := defScope s_is_fraction) (by decide +kernel)) (tgok_name (by decide)) (fun _ _ _ _ _ => pg_name (i := 1) sc.nd rfl (Or.inl rfl)) (fun _ _ _ _ _ => dts_nil) (fun _ _ _ _ _ => de_and (de_bN call_isi oc_isi rfl m_isinstance rfl (da_cons (de_var (pv 1)) (da_cons (de_ty rfl m_int rfl) (da_nil)))) (de_one (de_not (de_bN call_isi oc_isi rfl m_isinstance rfl (da_cons (de_var (pv 1)) (da_cons (de_ty rfl m_bool rfl) (da_nil)))))))))))))) (dss_cons (ds_ret (de_bl)) (dss_nil)) (dss_nil)) (dss_cons (ds_ret (de_and (d_gt (d_ixL (pv 0) (de_int)) (de_int)) (de_one (d_eq hr.units (de_call c_reduced (hr.mono (by first | decide | omega)) hgd (takes_of rfl rfl rfl rfl) rfl (da_cons (d_ixL (pv 0) (de_int)) (da_cons (d_ixL (pv 0) (de_int)) (da_nil))) (hal := (mACons_len (mACons_len mANil_len)))) (de_var (pv 0)))))) (dss_nil))
/-! check_base -/
abbrev s_check_base : Stmt := top 19
theorem sc_check_base : FnScope ["b"] ["b"] (defScope s_check_base) := ⟨rfl, rfl, rfl, by decide +kernel, rfl, by decide +kernel, by decide +kernel⟩
noncomputable def b_check_base : M Fl := sSeq (sIf (mNot (mB (mFn F_is_within (mACons (mVar 0) (mACons (mC (.int 2)) (mACons (mC (.int 60)) (mANil))))))) (sNever) (sSkip)) (sSkip)
noncomputable def F_check_base : Fun := bodyF 1 b_check_base
theorem g_check_base {P : Program} {wo : World} {K : PySem.W.Frag} {mg : Str → Option Value} {base : Heap} {f : Addr} {fd : FuncData} (D : FnP K "check_base" s_check_base f fd) (c_is_within : CalG P wo K mg base 2 3 "is_within" F_is_within) (i_LEAST_BASE : ∃ t, mg "LEAST_BASE" = some (.int 2 t)) (i_MOST_BASE : ∃ t, mg "MOST_BASE" = some (.int 60 t)) : FnG P wo K mg base 3 f fd ["b"] F_check_base := by
  obtain ⟨oc, od, dV, kV, doc, pm, an, cdv, ct, osl, rfl, lk, hcd, _, _⟩ := D.ex
  have sc := sc_check_base
  refine fnG_of (k := 2) (n := 1) (F := b_check_base) lk hcd sc rfl fun A outer s H E hr hgd => ?_
  exact dss_cons (ds_if (dt_not (dt_val (de_call c_is_within (hr.mono (by first | decide | omega)) hgd (takes_of rfl rfl rfl rfl) rfl (da_cons (de_var (pv 0)) (da_cons (de_gint rfl i_LEAST_BASE) (da_cons (de_gint rfl i_MOST_BASE) (da_nil)))) (hal := (mACons_len (mACons_len (mACons_len mANil_len))))))) (dss_never) (dss_nil)) (dss_nil)
/-! check_part -/
abbrev s_check_part : Stmt := top 20
theorem sc_check_part : FnScope ["x", "b"] ["x", "b"] (defScope s_check_part) := ⟨rfl, rfl, rfl, by decide +kernel, rfl, by decide +kernel, by decide +kernel⟩
noncomputable def b_check_part : M Fl := sSeq (sExpr (mFn F_check_base (mACons (mVar 1) (mANil)))) (sSeq (sIf (mOr (mNot (mB (mFn F_is_fraction (mACons (mVar 0) (mANil))))) (mB (mOp2 fLt (mOp2L fIx 0 (mC (.int 0))) (mC (.int 0))))) (sNever) (sSkip)) (sSkip))
noncomputable def F_check_part : Fun := bodyF 2 b_check_part
theorem g_check_part {P : Program} {wo : World} {K : PySem.W.Frag} {mg : Str → Option Value} {base : Heap} {f : Addr} {fd : FuncData} (D : FnP K "check_part" s_check_part f fd) (c_check_base : CalG P wo K mg base 3 1 "check_base" F_check_base) (c_is_fraction : CalG P wo K mg base 3 1 "is_fraction" F_is_fraction) : FnG P wo K mg base 4 f fd ["x", "b"] F_check_part := by
  obtain ⟨oc, od, dV, kV, doc, pm, an, cdv, ct, osl, rfl, lk, hcd, _, _⟩ := D.ex
  have sc := sc_check_part
  refine fnG_of (k := 3) (n := 2) (F := b_check_part) lk hcd sc rfl fun A outer s H E hr hgd => ?_
  exact dss_cons (ds_expr (de_call c_check_base (hr.mono (by first | decide | omega)) hgd (takes_of rfl rfl rfl rfl) rfl (da_cons (de_var (pv 1)) (da_nil)) (hal := (mACons_len mANil_len)))) (dss_cons (ds_if (PW.pt (dw_or (dt_not (dt_val (de_call c_is_fraction (hr.mono (by first | decide | omega)) hgd (takes_of rfl rfl rfl rfl) rfl (da_cons (de_var (pv 0)) (da_nil)) (hal := (mACons_len mANil_len))))) (dw_or1 (t_lt (d_ixL (pv 0) (de_int)) (de_int))))) (dss_never) (dss_nil)) (dss_nil))
/-! digits_of -/
abbrev s_digits_of : Stmt := top 21
theorem sc_digits_of : FnScope ["x", "b", "n", "whole", "rest", "found", "turn"] ["x", "b", "n"] (defScope s_digits_of) := ⟨rfl, rfl, rfl, by decide +kernel, rfl, by decide +kernel, by decide +kernel⟩
noncomputable def fb1_digits_of : M Fl := sSeq (sExpr (mApp 5 (mOp2 fOpDiv (mOp2L fOpMul 4 (mVar 1)) (mOp2L fIx 0 (mC (.int 1)))))) (sSeq (sAsg 4 (mOp2 fOpMod (mOp2L fOpMul 4 (mVar 1)) (mOp2L fIx 0 (mC (.int 1))))) (sSkip))
noncomputable def b_digits_of : M Fl := sSeq (sPar3 3 4 5 (mOp2 fOpDiv (mOp2L fIx 0 (mC (.int 0))) (mOp2L fIx 0 (mC (.int 1)))) (mOp2 fOpMod (mOp2L fIx 0 (mC (.int 0))) (mOp2L fIx 0 (mC (.int 1)))) (mLst (mANil))) (sSeq (sFor (iRg1 (mVar 2)) (gV 6) fb1_digits_of) (sSeq (sRet (mTup (mACons (mVar 3) (mACons (mOp1 fTuple (mVar 5)) (mANil))))) (sSkip)))
noncomputable def F_digits_of : Fun := bodyF 7 b_digits_of
theorem g_digits_of {P : Program} {wo : World} {K : PySem.W.Frag} {mg : Str → Option Value} {base : Heap} {f : Addr} {fd : FuncData} (D : FnP K "digits_of" s_digits_of f fd) (m_range : mg "range" = none) (m_tuple : mg "tuple" = none) : FnG P wo K mg base 1 f fd ["x", "b", "n"] F_digits_of := by
  obtain ⟨oc, od, dV, kV, doc, pm, an, cdv, ct, osl, rfl, lk, hcd, _, _⟩ := D.ex
  have sc := sc_digits_of
  refine fnG_of (k := 0) (n := 7) (F := b_digits_of) lk hcd sc rfl fun A outer s H E hr hgd => ?_
  exact dss_cons (ds_par3 (i := 3) (j := 4) (l := 5) rfl sc.nd rfl rfl rfl (by decide) (by decide) (by decide) rfl rfl rfl (d_div (d_ixL (pv 0) (de_int)) (d_ixL (pv 0) (de_int))) (d_mod (d_ixL (pv 0) (de_int)) (d_ixL (pv 0) (de_int))) (de_lst (da_nil)) rfl) (dss_cons (ds_for (passes_of rfl) rfl (di_rg1 rfl m_range (de_var (pv 2))) (dg_name (i := 6) sc.nd rfl (Or.inl rfl)) (dss_cons (ds_expr (de_app (pv 5) (d_div (d_mulL (pv 4) (de_var (pv 1))) (d_ixL (pv 0) (de_int))))) (dss_cons (ds_asg (i := 4) sc.nd rfl (Or.inl rfl) (d_mod (d_mulL (pv 4) (de_var (pv 1))) (d_ixL (pv 0) (de_int)))) (dss_nil)))) (dss_cons (ds_ret (de_tup (da_cons (de_var (pv 3)) (da_cons (de_t1 call_tuple_of oq_tuple rfl m_tuple rfl (de_var (pv 5))) (da_nil))))) (dss_nil)))
/-! check_written -/
abbrev s_check_written : Stmt := top 22
theorem sc_check_written : FnScope ["x", "b", "n"] ["x", "b", "n"] (defScope s_check_written) := ⟨rfl, rfl, rfl, by decide +kernel, rfl, by decide +kernel, by decide +kernel⟩
noncomputable def b_check_written : M Fl := sSeq (sExpr (mFn F_check_part (mACons (mVar 0) (mACons (mVar 1) (mANil))))) (sSeq (sIf (mNot (mB (mFn F_is_within (mACons (mVar 2) (mACons (mC (.int 0)) (mACons (mC (.int 12)) (mANil))))))) (sNever) (sSkip)) (sSkip))
noncomputable def F_check_written : Fun := bodyF 3 b_check_written
theorem g_check_written {P : Program} {wo : World} {K : PySem.W.Frag} {mg : Str → Option Value} {base : Heap} {f : Addr} {fd : FuncData} (D : FnP K "check_written" s_check_written f fd) (c_check_part : CalG P wo K mg base 4 2 "check_part" F_check_part) (c_is_within : CalG P wo K mg base 2 3 "is_within" F_is_within) (i_MOST_DIGITS : ∃ t, mg "MOST_DIGITS" = some (.int 12 t)) : FnG P wo K mg base 5 f fd ["x", "b", "n"] F_check_written := by
  obtain ⟨oc, od, dV, kV, doc, pm, an, cdv, ct, osl, rfl, lk, hcd, _, _⟩ := D.ex
  have sc := sc_check_written
  refine fnG_of (k := 4) (n := 3) (F := b_check_written) lk hcd sc rfl fun A outer s H E hr hgd => ?_
  exact dss_cons (ds_expr (de_call c_check_part (hr.mono (by first | decide | omega)) hgd (takes_of rfl rfl rfl rfl) rfl (da_cons (de_var (pv 0)) (da_cons (de_var (pv 1)) (da_nil))) (hal := (mACons_len (mACons_len mANil_len))))) (dss_cons (ds_if (dt_not (dt_val (de_call c_is_within (hr.mono (by first | decide | omega)) hgd (takes_of rfl rfl rfl rfl) rfl (da_cons (de_var (pv 2)) (da_cons (de_int) (da_cons (de_gint rfl i_MOST_DIGITS) (da_nil)))) (hal := (mACons_len (mACons_len (mACons_len mANil_len))))))) (dss_never) (dss_nil)) (dss_nil))
/-! written -/
abbrev s_written : Stmt := top 23
theorem sc_written : FnScope ["x", "b", "n"] ["x", "b", "n"] (defScope s_written) := ⟨rfl, rfl, rfl, by decide +kernel, rfl, by decide +kernel, by decide +kernel⟩
noncomputable def b_written : M Fl := sSeq (sExpr (mFn F_check_written (mACons (mVar 0) (mACons (mVar 1) (mACons (mVar 2) (mANil)))))) (sSeq (sRet (mFn F_digits_of (mACons (mVar 0) (mACons (mVar 1) (mACons (mVar 2) (mANil)))))) (sSkip))
noncomputable def F_written : Fun := bodyF 3 b_written
theorem g_written {P : Program} {wo : World} {K : PySem.W.Frag} {mg : Str → Option Value} {base : Heap} {f : Addr} {fd : FuncData} (D : FnP K "written" s_written f fd) (c_check_written : CalG P wo K mg base 5 3 "check_written" F_check_written) (c_digits_of : CalG P wo K mg base 1 3 "digits_of" F_digits_of) : FnG P wo K mg base 6 f fd ["x", "b", "n"] F_written := by
  obtain ⟨oc, od, dV, kV, doc, pm, an, cdv, ct, osl, rfl, lk, hcd, _, _⟩ := D.ex
  have sc := sc_written
  refine fnG_of (k := 5) (n := 3) (F := b_written) lk hcd sc rfl fun A outer s H E hr hgd => ?_
  exact dss_cons (ds_expr (de_call c_check_written (hr.mono (by first | decide | omega)) hgd (takes_of rfl rfl rfl rfl) rfl (da_cons (de_var (pv 0)) (da_cons (de_var (pv 1)) (da_cons (de_var (pv 2)) (da_nil)))) (hal := (mACons_len (mACons_len (mACons_len mANil_len)))))) (dss_cons (ds_ret (de_call c_digits_of (hr.mono (by first | decide | omega)) hgd (takes_of rfl rfl rfl rfl) rfl (da_cons (de_var (pv 0)) (da_cons (de_var (pv 1)) (da_cons (de_var (pv 2)) (da_nil)))) (hal := (mACons_len (mACons_len (mACons_len mANil_len)))))) (dss_nil))
/-! apart -/
abbrev s_apart : Stmt := top 24
theorem sc_apart : FnScope ["bottom", "b", "low"] ["bottom", "b"] (defScope s_apart) := ⟨rfl, rfl, rfl, by decide +kernel, rfl, by decide +kernel, by decide +kernel⟩
noncomputable def wc1_apart : M Bool := mB (mOp2L fGt 2 (mC (.int 1)))
noncomputable def wb1_apart : M Fl := sSeq (sAsg 0 (mOp2L fOpDiv 0 (mVar 2))) (sSeq (sAsg 2 (mFn F_divisor (mACons (mVar 0) (mACons (mVar 1) (mANil))))) (sSkip))
noncomputable def b_apart : M Fl := sSeq (sAsg 2 (mFn F_divisor (mACons (mVar 0) (mACons (mVar 1) (mANil))))) (sSeq (sWh wc1_apart wb1_apart) (sSeq (sRet (mVar 0)) (sSkip)))
noncomputable def F_apart : Fun := bodyF 3 b_apart
theorem g_apart {P : Program} {wo : World} {K : PySem.W.Frag} {mg : Str → Option Value} {base : Heap} {f : Addr} {fd : FuncData} (D : FnP K "apart" s_apart f fd) (c_divisor : CalG P wo K mg base 1 2 "divisor" F_divisor) : FnG P wo K mg base 2 f fd ["bottom", "b"] F_apart := by
  obtain ⟨oc, od, dV, kV, doc, pm, an, cdv, ct, osl, rfl, lk, hcd, _, _⟩ := D.ex
  have sc := sc_apart
  refine fnG_of (k := 1) (n := 3) (F := b_apart) lk hcd sc rfl fun A outer s H E hr hgd => ?_
  exact dss_cons (ds_asg (i := 2) sc.nd rfl (Or.inl rfl) (de_call c_divisor (hr.mono (by first | decide | omega)) hgd (takes_of rfl rfl rfl rfl) rfl (da_cons (de_var (pv 0)) (da_cons (de_var (pv 1)) (da_nil))) (hal := (mACons_len (mACons_len mANil_len))))) (dss_cons (ds_while (passes_of rfl) (t_gtL (pv 2) (de_int)) (dss_cons (ds_asg (i := 0) sc.nd rfl (Or.inl rfl) (d_divL (pv 0) (de_var (pv 2)))) (dss_cons (ds_asg (i := 2) sc.nd rfl (Or.inl rfl) (de_call c_divisor (hr.mono (by first | decide | omega)) hgd (takes_of rfl rfl rfl rfl) rfl (da_cons (de_var (pv 0)) (da_cons (de_var (pv 1)) (da_nil))) (hal := (mACons_len (mACons_len mANil_len))))) (dss_nil)))) (dss_cons (ds_ret (de_var (pv 0))) (dss_nil)))
/-! all_digits -/
abbrev s_all_digits : Stmt := top 25
theorem sc_all_digits : FnScope ["x", "b", "rest", "found"] ["x", "b"] (defScope s_all_digits) := ⟨rfl, rfl, rfl, by decide +kernel, rfl, by decide +kernel, by decide +kernel⟩
noncomputable def wc1_all_digits : M Bool := mB (mOp2L fGt 2 (mC (.int 0)))
noncomputable def wb1_all_digits : M Fl := sSeq (sExpr (mApp 3 (mOp2 fOpDiv (mOp2L fOpMul 2 (mVar 1)) (mOp2L fIx 0 (mC (.int 1)))))) (sSeq (sAsg 2 (mOp2 fOpMod (mOp2L fOpMul 2 (mVar 1)) (mOp2L fIx 0 (mC (.int 1))))) (sSkip))
noncomputable def b_all_digits : M Fl := sSeq (sPar2 2 3 (mOp2 fOpMod (mOp2L fIx 0 (mC (.int 0))) (mOp2L fIx 0 (mC (.int 1)))) (mLst (mANil))) (sSeq (sWh wc1_all_digits wb1_all_digits) (sSeq (sRet (mOp1 fTuple (mVar 3))) (sSkip)))
noncomputable def F_all_digits : Fun := bodyF 4 b_all_digits
theorem g_all_digits {P : Program} {wo : World} {K : PySem.W.Frag} {mg : Str → Option Value} {base : Heap} {f : Addr} {fd : FuncData} (D : FnP K "all_digits" s_all_digits f fd) (m_tuple : mg "tuple" = none) : FnG P wo K mg base 1 f fd ["x", "b"] F_all_digits := by
  obtain ⟨oc, od, dV, kV, doc, pm, an, cdv, ct, osl, rfl, lk, hcd, _, _⟩ := D.ex
  have sc := sc_all_digits
  refine fnG_of (k := 0) (n := 4) (F := b_all_digits) lk hcd sc rfl fun A outer s H E hr hgd => ?_
  exact dss_cons (ds_par2 (i := 2) (j := 3) rfl sc.nd rfl rfl (by decide) rfl rfl (d_mod (d_ixL (pv 0) (de_int)) (d_ixL (pv 0) (de_int))) (de_lst (da_nil)) rfl) (dss_cons (ds_while (passes_of rfl) (t_gtL (pv 2) (de_int)) (dss_cons (ds_expr (de_app (pv 3) (d_div (d_mulL (pv 2) (de_var (pv 1))) (d_ixL (pv 0) (de_int))))) (dss_cons (ds_asg (i := 2) sc.nd rfl (Or.inl rfl) (d_mod (d_mulL (pv 2) (de_var (pv 1))) (d_ixL (pv 0) (de_int)))) (dss_nil)))) (dss_cons (ds_ret (de_t1 call_tuple_of oq_tuple rfl m_tuple rfl (de_var (pv 3)))) (dss_nil)))
/-! ends -/
abbrev s_ends : Stmt := top 26
theorem sc_ends : FnScope ["x", "b", "bar"] ["x", "b"] (defScope s_ends) := ⟨rfl, rfl, rfl, by decide +kernel, rfl, by decide +kernel, by decide +kernel⟩
noncomputable def b_ends : M Fl := sSeq (sExpr (mFn F_check_part (mACons (mVar 0) (mACons (mVar 1) (mANil))))) (sSeq (sAsg 2 (mFn F_apart (mACons (mOp2L fIx 0 (mC (.int 1))) (mACons (mVar 1) (mANil))))) (sSeq (sRet (mIf (mB (mOp2L fEq 2 (mC (.int 1)))) (mTup (mACons (mC (.str "ends")) (mACons (mFn F_all_digits (mACons (mVar 0) (mACons (mVar 1) (mANil)))) (mANil)))) (mTup (mACons (mC (.str "stays")) (mACons (mVar 2) (mANil)))))) (sSkip)))
noncomputable def F_ends : Fun := bodyF 3 b_ends
theorem g_ends {P : Program} {wo : World} {K : PySem.W.Frag} {mg : Str → Option Value} {base : Heap} {f : Addr} {fd : FuncData} (D : FnP K "ends" s_ends f fd) (c_check_part : CalG P wo K mg base 4 2 "check_part" F_check_part) (c_apart : CalG P wo K mg base 2 2 "apart" F_apart) (c_all_digits : CalG P wo K mg base 1 2 "all_digits" F_all_digits) : FnG P wo K mg base 5 f fd ["x", "b"] F_ends := by
  obtain ⟨oc, od, dV, kV, doc, pm, an, cdv, ct, osl, rfl, lk, hcd, _, _⟩ := D.ex
  have sc := sc_ends
  refine fnG_of (k := 4) (n := 3) (F := b_ends) lk hcd sc rfl fun A outer s H E hr hgd => ?_
  exact dss_cons (ds_expr (de_call c_check_part (hr.mono (by first | decide | omega)) hgd (takes_of rfl rfl rfl rfl) rfl (da_cons (de_var (pv 0)) (da_cons (de_var (pv 1)) (da_nil))) (hal := (mACons_len (mACons_len mANil_len))))) (dss_cons (ds_asg (i := 2) sc.nd rfl (Or.inl rfl) (de_call c_apart (hr.mono (by first | decide | omega)) hgd (takes_of rfl rfl rfl rfl) rfl (da_cons (d_ixL (pv 0) (de_int)) (da_cons (de_var (pv 1)) (da_nil))) (hal := (mACons_len (mACons_len mANil_len))))) (dss_cons (ds_ret (de_if (t_eqL hr.units (pv 2) (de_int)) (de_tup (da_cons (de_str) (da_cons (de_call c_all_digits (hr.mono (by first | decide | omega)) hgd (takes_of rfl rfl rfl rfl) rfl (da_cons (de_var (pv 0)) (da_cons (de_var (pv 1)) (da_nil))) (hal := (mACons_len (mACons_len mANil_len)))) (da_nil)))) (de_tup (da_cons (de_str) (da_cons (de_var (pv 2)) (da_nil)))))) (dss_nil)))
/-! is_ends -/
abbrev s_is_ends : Stmt := top 27
theorem sc_is_ends : FnScope ["x", "b", "thing", "one"] ["x", "b", "thing"] (defScope s_is_ends) := ⟨rfl, rfl, rfl, by decide +kernel, rfl, by decide +kernel, by decide +kernel⟩
noncomputable def ce1_is_ends : M DV := mFn F_is_integer (mACons (mVar 3) (mANil))
noncomputable def b_is_ends : M Fl := sSeq (sExpr (mFn F_check_part (mACons (mVar 0) (mACons (mVar 1) (mANil))))) (sSeq (sIf (mOr (mNot (mB (mFn F_is_tuple (mACons (mVar 2) (mACons (mC (.int 2)) (mACons (mC (.int 2)) (mANil))))))) (mNot (mB (mCB fIsi (mACons (mOp2L fIx 2 (mC (.int 0))) (mACons (mC (.ty "str")) (mANil))))))) (sSeq (sRet (mC (.bl false))) (sSkip)) (sSkip)) (sSeq (sIf (mB (mOp2 fEq (mOp2L fIx 2 (mC (.int 0))) (mC (.str "stays")))) (sSeq (sIf (mOr (mNot (mB (mFn F_is_integer (mACons (mOp2L fIx 2 (mC (.int 1))) (mANil))))) (mB (mOp2 fLt (mOp2L fIx 2 (mC (.int 1))) (mC (.int 2))))) (sSeq (sRet (mC (.bl false))) (sSkip)) (sSkip)) (sSeq (sRet (mAndV (mOp2 fEq (mOp2 fOpMod (mOp2L fIx 0 (mC (.int 1))) (mOp2L fIx 2 (mC (.int 1)))) (mC (.int 0))) (mOp2 fEq (mFn F_divisor (mACons (mOp2L fIx 2 (mC (.int 1))) (mACons (mVar 1) (mANil)))) (mC (.int 1))))) (sSkip))) (sSkip)) (sSeq (sIf (mOr (mB (mOp2 fNe (mOp2L fIx 2 (mC (.int 0))) (mC (.str "ends")))) (mOr (mNot (mB (mFn F_is_tuple (mACons (mOp2L fIx 2 (mC (.int 1))) (mACons (mC (.int 0)) (mACons (mC (.int 2000)) (mANil))))))) (mB (mOp2 fGt (mFn F_apart (mACons (mOp2L fIx 0 (mC (.int 1))) (mACons (mVar 1) (mANil)))) (mC (.int 1)))))) (sSeq (sRet (mC (.bl false))) (sSkip)) (sSkip)) (sSeq (sRet (mAndV (mOp1 fAll (mLc (iSeq (mOp2L fIx 2 (mC (.int 1)))) [3] (gV 3) mYes ce1_is_ends)) (mOp2 fEq (mOp2L fIx 2 (mC (.int 1))) (mFn F_all_digits (mACons (mVar 0) (mACons (mVar 1) (mANil))))))) (sSkip)))))
noncomputable def F_is_ends : Fun := bodyF 4 b_is_ends
theorem g_is_ends {P : Program} {wo : World} {K : PySem.W.Frag} {mg : Str → Option Value} {base : Heap} {f : Addr} {fd : FuncData} (D : FnP K "is_ends" s_is_ends f fd) (c_check_part : CalG P wo K mg base 4 2 "check_part" F_check_part) (c_is_tuple : CalG P wo K mg base 1 3 "is_tuple" F_is_tuple) (c_is_integer : CalG P wo K mg base 1 1 "is_integer" F_is_integer) (c_divisor : CalG P wo K mg base 1 2 "divisor" F_divisor) (c_apart : CalG P wo K mg base 2 2 "apart" F_apart) (c_all_digits : CalG P wo K mg base 1 2 "all_digits" F_all_digits) (m_isinstance : mg "isinstance" = none) (m_str : mg "str" = none) (i_MOST_JUDGED : ∃ t, mg "MOST_JUDGED" = some (.int 2000 t)) (m_all : mg "all" = none) : FnG P wo K mg base 5 f fd ["x", "b", "thing"] F_is_ends := by
  obtain ⟨oc, od, dV, kV, doc, pm, an, cdv, ct, osl, rfl, lk, hcd, _, _⟩ := D.ex
  have sc := sc_is_ends
  refine fnG_of (k := 4) (n := 4) (F := b_is_ends) lk hcd sc rfl fun A outer s H E hr hgd => ?_
  exact dss_cons (ds_expr (de_call c_check_part (hr.mono (by first | decide | omega)) hgd (takes_of rfl rfl rfl rfl) rfl (da_cons (de_var (pv 0)) (da_cons (de_var (pv 1)) (da_nil))) (hal := (mACons_len (mACons_len mANil_len))))) (dss_cons (ds_if (PW.pt (dw_or (dt_not (dt_val (de_call c_is_tuple (hr.mono (by first | decide | omega)) hgd (takes_of rfl rfl rfl rfl) rfl (da_cons (de_var (pv 2)) (da_cons (de_int) (da_cons (de_int) (da_nil)))) (hal := (mACons_len (mACons_len (mACons_len mANil_len))))))) (dw_or1 (dt_not (dt_val (de_bN call_isi oc_isi rfl m_isinstance rfl (da_cons (d_ixL (pv 2) (de_int)) (da_cons (de_ty rfl m_str rfl) (da_nil))))))))) (dss_cons (ds_ret (de_bl)) (dss_nil)) (dss_nil)) (dss_cons (ds_if (t_eq hr.units (d_ixL (pv 2) (de_int)) (de_str)) (dss_cons (ds_if (PW.pt (dw_or (dt_not (dt_val (de_call c_is_integer (hr.mono (by first | decide | omega)) hgd (takes_of rfl rfl rfl rfl) rfl (da_cons (d_ixL (pv 2) (de_int)) (da_nil)) (hal := (mACons_len mANil_len))))) (dw_or1 (t_lt (d_ixL (pv 2) (de_int)) (de_int))))) (dss_cons (ds_ret (de_bl)) (dss_nil)) (dss_nil)) (dss_cons (ds_ret (de_and (d_eq hr.units (d_mod (d_ixL (pv 0) (de_int)) (d_ixL (pv 2) (de_int))) (de_int)) (de_one (d_eq hr.units (de_call c_divisor (hr.mono (by first | decide | omega)) hgd (takes_of rfl rfl rfl rfl) rfl (da_cons (d_ixL (pv 2) (de_int)) (da_cons (de_var (pv 1)) (da_nil))) (hal := (mACons_len (mACons_len mANil_len)))) (de_int))))) (dss_nil))) (dss_nil)) (dss_cons (ds_if (PW.pt (dw_or (t_ne hr.units (d_ixL (pv 2) (de_int)) (de_str)) (dw_or (dt_not (dt_val (de_call c_is_tuple (hr.mono (by first | decide | omega)) hgd (takes_of rfl rfl rfl rfl) rfl (da_cons (d_ixL (pv 2) (de_int)) (da_cons (de_int) (da_cons (de_gint rfl i_MOST_JUDGED) (da_nil)))) (hal := (mACons_len (mACons_len (mACons_len mANil_len))))))) (dw_or1 (t_gt (de_call c_apart (hr.mono (by first | decide | omega)) hgd (takes_of rfl rfl rfl rfl) rfl (da_cons (d_ixL (pv 0) (de_int)) (da_cons (de_var (pv 1)) (da_nil))) (hal := (mACons_len (mACons_len mANil_len)))) (de_int)))))) (dss_cons (ds_ret (de_bl)) (dss_nil)) (dss_nil)) (dss_cons (ds_ret (de_and (de_b1 (cr_all rfl) oq_all rfl m_all rfl (de_lc rfl rfl sc.nd (di_seq (d_ixL (pv 2) (de_int))) (blkOk_by (own := [("one", 3)]) (N := ["x", "b", "thing", "one"]) (sc := defScope s_is_ends) (by decide +kernel)) (tgok_name (by decide)) (fun _ _ _ _ _ => pg_name (i := 3) sc.nd rfl (Or.inl rfl)) (fun _ _ _ _ _ => dts_nil) (fun _ _ _ _ _ => de_call c_is_integer (hr.mono (by first | decide | omega)) hgd LamX.takes0 rfl (da_cons (de_var (pv 3)) (da_nil)) (hal := (mACons_len mANil_len))))) (de_one (d_eq hr.units (d_ixL (pv 2) (de_int)) (de_call c_all_digits (hr.mono (by first | decide | omega)) hgd (takes_of rfl rfl rfl rfl) rfl (da_cons (de_var (pv 0)) (da_cons (de_var (pv 1)) (da_nil))) (hal := (mACons_len (mACons_len mANil_len)))))))) (dss_nil)))))
/-! back_pairs -/
abbrev s_back_pairs : Stmt := top 28
theorem sc_back_pairs : FnScope ["b", "most", "number"] ["b", "most"] (defScope s_back_pairs) := ⟨rfl, rfl, rfl, by decide +kernel, rfl, by decide +kernel, by decide +kernel⟩
noncomputable def ce1_back_pairs : M DV := mVar 2
noncomputable def ct1_back_pairs : M Bool := mB (mOp2 fEq (mFn F_apart (mACons (mVar 2) (mACons (mVar 0) (mANil)))) (mC (.int 1)))
noncomputable def b_back_pairs : M Fl := sSeq (sExpr (mFn F_check_base (mACons (mVar 0) (mANil)))) (sSeq (sIf (mNot (mB (mFn F_is_within (mACons (mVar 1) (mACons (mC (.int 1)) (mACons (mC (.int 400)) (mANil))))))) (sNever) (sSkip)) (sSeq (sRet (mOp1 fTuple (mLc (iRg2 (mC (.int 1)) (mOp2L fOpAdd 1 (mC (.int 1)))) [2] (gV 2) ct1_back_pairs ce1_back_pairs))) (sSkip)))
noncomputable def F_back_pairs : Fun := bodyF 3 b_back_pairs
theorem g_back_pairs {P : Program} {wo : World} {K : PySem.W.Frag} {mg : Str → Option Value} {base : Heap} {f : Addr} {fd : FuncData} (D : FnP K "back_pairs" s_back_pairs f fd) (c_check_base : CalG P wo K mg base 3 1 "check_base" F_check_base) (c_is_within : CalG P wo K mg base 2 3 "is_within" F_is_within) (c_apart : CalG P wo K mg base 2 2 "apart" F_apart) (i_MOST_NUMBER : ∃ t, mg "MOST_NUMBER" = some (.int 400 t)) (m_tuple : mg "tuple" = none) (m_range : mg "range" = none) : FnG P wo K mg base 4 f fd ["b", "most"] F_back_pairs := by
  obtain ⟨oc, od, dV, kV, doc, pm, an, cdv, ct, osl, rfl, lk, hcd, _, _⟩ := D.ex
  have sc := sc_back_pairs
  refine fnG_of (k := 3) (n := 3) (F := b_back_pairs) lk hcd sc rfl fun A outer s H E hr hgd => ?_
  exact dss_cons (ds_expr (de_call c_check_base (hr.mono (by first | decide | omega)) hgd (takes_of rfl rfl rfl rfl) rfl (da_cons (de_var (pv 0)) (da_nil)) (hal := (mACons_len mANil_len)))) (dss_cons (ds_if (dt_not (dt_val (de_call c_is_within (hr.mono (by first | decide | omega)) hgd (takes_of rfl rfl rfl rfl) rfl (da_cons (de_var (pv 1)) (da_cons (de_int) (da_cons (de_gint rfl i_MOST_NUMBER) (da_nil)))) (hal := (mACons_len (mACons_len (mACons_len mANil_len))))))) (dss_never) (dss_nil)) (dss_cons (ds_ret (de_t1 call_tuple_of oq_tuple rfl m_tuple rfl (de_lc rfl rfl sc.nd (di_rg2 rfl m_range (de_int) (d_addL (pv 1) (de_int))) (blkOk_by (own := [("number", 2)]) (N := ["b", "most", "number"]) (sc := defScope s_back_pairs) (by decide +kernel)) (tgok_name (by decide)) (fun _ _ _ _ _ => pg_name (i := 2) sc.nd rfl (Or.inl rfl)) (fun _ _ _ _ _ => dts_one (t_eq hr.units (de_call c_apart (hr.mono (by first | decide | omega)) hgd LamX.takes0 rfl (da_cons (de_var (pv 2)) (da_cons (de_var (pv 0)) (da_nil))) (hal := (mACons_len (mACons_len mANil_len)))) (de_int))) (fun _ _ _ _ _ => de_var (pv 2))))) (dss_nil)))
/-! _law_hand -/
abbrev s__law_hand : Stmt := top 30
theorem sc__law_hand : FnScope ["script", "cells", "cell"] ["script"] (defScope s__law_hand) := ⟨rfl, rfl, rfl, by decide +kernel, rfl, by decide +kernel, by decide +kernel⟩
noncomputable def ce1__law_hand : M DV := mOp1 fAbs (mOp1 fInt (mVar 2))
noncomputable def b__law_hand : M Fl := sSeq (sAsg 1 (mLc (iSeq (mSlL 0 (oNo) (oSo (mC (.int 63))))) [2] (gV 2) mYes ce1__law_hand)) (sSeq (sRet (mLoc (mACons (mVar 1) (mACons (mC (.int 0)) (mACons (mC (.int 0)) (mACons (mOp2 fOpAdd (mC (.int 251)) (mOp1L fLenA 1)) (mACons (mC (.int 0)) (mANil)))))))) (sSkip))
noncomputable def F__law_hand : Fun := bodyF 3 b__law_hand
theorem g__law_hand {P : Program} {wo : World} {K : PySem.W.Frag} {mg : Str → Option Value} {base : Heap} {f : Addr} {fd : FuncData} (D : FnP K "_law_hand" s__law_hand f fd) (m_abs : mg "abs" = none) (m_int : mg "int" = none) (m_len : mg "len" = none) : FnG P wo K mg base 1 f fd ["script"] F__law_hand := by
  obtain ⟨oc, od, dV, kV, doc, pm, an, cdv, ct, osl, rfl, lk, hcd, _, _⟩ := D.ex
  have sc := sc__law_hand
  refine fnG_of (k := 0) (n := 3) (F := b__law_hand) lk hcd sc rfl fun A outer s H E hr hgd => ?_
  exact dss_cons (ds_asgLc (i := 1) rfl rfl sc.nd rfl rfl (sw_true rfl rfl rfl (by decide +kernel)) (di_seq (de_slL (pv 0) (do_no) (do_so (de_int)))) (blkOk_by (own := [("cell", 2)]) (N := ["script", "cells", "cell"]) (sc := defScope s__law_hand) (by decide +kernel)) (tgok_name (by decide)) (fun _ _ _ _ _ => pg_name (i := 2) sc.nd rfl (Or.inl rfl)) (fun _ _ _ _ _ => dts_nil) (fun _ _ _ _ _ => de_b1 call_abs oq_abs rfl m_abs rfl (de_t1 call_int1 oq_int rfl m_int rfl (de_var (pv 2))))) (dss_cons (ds_ret (de_loc (da_cons (de_var (pv 1)) (da_cons (de_int) (da_cons (de_int) (da_cons (d_add (de_int) (de_b1L cr_lenA oq_lenA rfl m_len rfl (pv 1))) (da_cons (de_int) (da_nil)))))))) (dss_nil))
/-! _law_draw -/
abbrev s__law_draw : Stmt := top 31
theorem sc__law_draw : FnScope ["hand", "limit", "cell", "digit", "number"] ["hand", "limit"] (defScope s__law_draw) := ⟨rfl, rfl, rfl, by decide +kernel, rfl, by decide +kernel, by decide +kernel⟩
noncomputable def b__law_draw : M Fl := sSeq (sIf (mAnd (mB (mOp2 fEq (mOp2L fIx 0 (mC (.int 2))) (mC (.int 0)))) (mB (mOp2 fLt (mOp2L fIx 0 (mC (.int 1))) (mOp1 fLenA (mOp2L fIx 0 (mC (.int 0))))))) (sSeq (sAsg 2 (mOp2 fIx (mOp2L fIx 0 (mC (.int 0))) (mOp2L fIx 0 (mC (.int 1))))) (sSeq (sSetIx 0 (mC (.int 1)) (mOp2 fOpAdd (mOp2L fIx 0 (mC (.int 1))) (mC (.int 1)))) (sSeq (sSetIx 0 (mC (.int 3)) (mOp2 fOpMod (mOp1 fInt (mOp2 fOpAdd (mOp2 fOpAdd (mOp2 fOpMul (mOp2L fIx 0 (mC (.int 3))) (mC (.int 69621))) (mVar 2)) (mC (.int 347)))) (mC (.int 2147483629)))) (sSeq (sIf (mB (mOp2L fGe 2 (mOp2 fOpPow (mC (.int 10)) (mC (.int 18))))) (sSeq (sSetIx 0 (mC (.int 2)) (mVar 2)) (sSkip)) (sSkip)) (sSkip))))) (sSkip)) (sSeq (sIf (mB (mOp2 fGt (mOp2L fIx 0 (mC (.int 2))) (mC (.int 0)))) (sSeq (sAsg 3 (mOp2 fOpMod (mOp1 fInt (mOp2L fIx 0 (mC (.int 2)))) (mVar 1))) (sSeq (sSetIx 0 (mC (.int 2)) (mOp2 fOpDiv (mOp2L fIx 0 (mC (.int 2))) (mVar 1))) (sSeq (sRet (mVar 3)) (sSkip)))) (sSkip)) (sSeq (sSetIx 0 (mC (.int 4)) (mOp2 fOpAdd (mOp2L fIx 0 (mC (.int 4))) (mC (.int 1)))) (sSeq (sAsg 4 (mOp2 fOpMod (mOp1 fInt (mOp2 fOpMul (mOp1 fInt (mOp2 fOpAdd (mOp2L fIx 0 (mC (.int 3))) (mOp2 fOpMul (mC (.int 7919)) (mOp2L fIx 0 (mC (.int 4)))))) (mC (.int 48271)))) (mC (.int 2147483647)))) (sSeq (sAsg 4 (mOp2 fOpMod (mOp1 fInt (mOp2L fOpMul 4 (mOp2 fOpAdd (mOp2L fOpDiv 4 (mC (.int 1009))) (mC (.int 69621))))) (mC (.int 2147483647)))) (sSeq (sAsg 4 (mOp2 fOpMod (mOp1 fInt (mOp2L fOpMul 4 (mOp2 fOpAdd (mOp2L fOpDiv 4 (mC (.int 2003))) (mC (.int 40692))))) (mC (.int 2147483399)))) (sSeq (sRet (mOp2 fOpMod (mOp1 fInt (mOp2L fOpDiv 4 (mC (.int 16)))) (mVar 1))) (sSkip)))))))
noncomputable def F__law_draw : Fun := bodyF 5 b__law_draw
theorem g__law_draw {P : Program} {wo : World} {K : PySem.W.Frag} {mg : Str → Option Value} {base : Heap} {f : Addr} {fd : FuncData} (D : FnP K "_law_draw" s__law_draw f fd) (m_len : mg "len" = none) (m_int : mg "int" = none) : FnG P wo K mg base 1 f fd ["hand", "limit"] F__law_draw := by
  obtain ⟨oc, od, dV, kV, doc, pm, an, cdv, ct, osl, rfl, lk, hcd, _, _⟩ := D.ex
  have sc := sc__law_draw
  refine fnG_of (k := 0) (n := 5) (F := b__law_draw) lk hcd sc rfl fun A outer s H E hr hgd => ?_
  exact dss_cons (ds_if (PW.pt (dw_and (t_eq hr.units (d_ixL (pv 0) (de_int)) (de_int)) (dw_and1 (t_lt (d_ixL (pv 0) (de_int)) (de_b1 cr_lenA oq_lenA rfl m_len rfl (d_ixL (pv 0) (de_int))))))) (dss_cons (ds_asg (i := 2) sc.nd rfl (Or.inl rfl) (d_ix (d_ixL (pv 0) (de_int)) (d_ixL (pv 0) (de_int)))) (dss_cons (ds_setix (pv 0) (de_int) (d_add (d_ixL (pv 0) (de_int)) (de_int))) (dss_cons (ds_setix (pv 0) (de_int) (d_mod (de_t1 call_int1 oq_int rfl m_int rfl (d_add (d_add (d_mul (d_ixL (pv 0) (de_int)) (de_int)) (de_var (pv 2))) (de_int))) (de_int))) (dss_cons (ds_if (t_geL (pv 2) (d_pow (de_int) (de_int))) (dss_cons (ds_setix (pv 0) (de_int) (de_var (pv 2))) (dss_nil)) (dss_nil)) (dss_nil))))) (dss_nil)) (dss_cons (ds_if (t_gt (d_ixL (pv 0) (de_int)) (de_int)) (dss_cons (ds_asg (i := 3) sc.nd rfl (Or.inl rfl) (d_mod (de_t1 call_int1 oq_int rfl m_int rfl (d_ixL (pv 0) (de_int))) (de_var (pv 1)))) (dss_cons (ds_setix (pv 0) (de_int) (d_div (d_ixL (pv 0) (de_int)) (de_var (pv 1)))) (dss_cons (ds_ret (de_var (pv 3))) (dss_nil)))) (dss_nil)) (dss_cons (ds_setix (pv 0) (de_int) (d_add (d_ixL (pv 0) (de_int)) (de_int))) (dss_cons (ds_asg (i := 4) sc.nd rfl (Or.inl rfl) (d_mod (de_t1 call_int1 oq_int rfl m_int rfl (d_mul (de_t1 call_int1 oq_int rfl m_int rfl (d_add (d_ixL (pv 0) (de_int)) (d_mul (de_int) (d_ixL (pv 0) (de_int))))) (de_int))) (de_int))) (dss_cons (ds_asg (i := 4) sc.nd rfl (Or.inl rfl) (d_mod (de_t1 call_int1 oq_int rfl m_int rfl (d_mulL (pv 4) (d_add (d_divL (pv 4) (de_int)) (de_int)))) (de_int))) (dss_cons (ds_asg (i := 4) sc.nd rfl (Or.inl rfl) (d_mod (de_t1 call_int1 oq_int rfl m_int rfl (d_mulL (pv 4) (d_add (d_divL (pv 4) (de_int)) (de_int)))) (de_int))) (dss_cons (ds_ret (d_mod (de_t1 call_int1 oq_int rfl m_int rfl (d_divL (pv 4) (de_int))) (de_var (pv 1)))) (dss_nil)))))))
/-! _law_some -/
abbrev s__law_some : Stmt := top 32
theorem sc__law_some : FnScope ["hand", "items"] ["hand", "items"] (defScope s__law_some) := ⟨rfl, rfl, rfl, by decide +kernel, rfl, by decide +kernel, by decide +kernel⟩
noncomputable def b__law_some : M Fl := sSeq (sRet (mOp2L fIx 1 (mFn F__law_draw (mACons (mVar 0) (mACons (mOp1L fLenA 1) (mANil)))))) (sSkip)
noncomputable def F__law_some : Fun := bodyF 2 b__law_some
theorem g__law_some {P : Program} {wo : World} {K : PySem.W.Frag} {mg : Str → Option Value} {base : Heap} {f : Addr} {fd : FuncData} (D : FnP K "_law_some" s__law_some f fd) (c__law_draw : CalG P wo K mg base 1 2 "_law_draw" F__law_draw) (m_len : mg "len" = none) : FnG P wo K mg base 2 f fd ["hand", "items"] F__law_some := by
  obtain ⟨oc, od, dV, kV, doc, pm, an, cdv, ct, osl, rfl, lk, hcd, _, _⟩ := D.ex
  have sc := sc__law_some
  refine fnG_of (k := 1) (n := 2) (F := b__law_some) lk hcd sc rfl fun A outer s H E hr hgd => ?_
  exact dss_cons (ds_ret (d_ixL (pv 1) (de_call c__law_draw (hr.mono (by first | decide | omega)) hgd (takes_of rfl rfl rfl rfl) rfl (da_cons (de_var (pv 0)) (da_cons (de_b1L cr_lenA oq_lenA rfl m_len rfl (pv 1)) (da_nil))) (hal := (mACons_len (mACons_len mANil_len)))))) (dss_nil)
/-! _law_is -/
abbrev s__law_is : Stmt := top 33
theorem sc__law_is : FnScope ["thing", "due", "one", "its"] ["thing", "due"] (defScope s__law_is) := ⟨rfl, rfl, rfl, by decide +kernel, rfl, by decide +kernel, by decide +kernel⟩
noncomputable def ce1__law_is (F : Fun) : M DV := mFn F (mACons (mVar 2) (mACons (mVar 3) (mANil)))
noncomputable def b__law_is (F : Fun) : M Fl := sSeq (sIf (mOr (mB (mCB fIsi (mACons (mVar 1) (mACons (mC (.ty "tuple")) (mANil))))) (mB (mCB fIsi (mACons (mVar 1) (mACons (mC (.ty "list")) (mANil)))))) (sSeq (sIf (mOr (mB (mOp2 fNe (mCB fIsi (mACons (mVar 1) (mACons (mC (.ty "tuple")) (mANil)))) (mCB fIsi (mACons (mVar 0) (mACons (mC (.ty "tuple")) (mANil)))))) (mB (mOp2 fNe (mCB fIsi (mACons (mVar 1) (mACons (mC (.ty "list")) (mANil)))) (mCB fIsi (mACons (mVar 0) (mACons (mC (.ty "list")) (mANil))))))) (sSeq (sRet (mC (.bl false))) (sSkip)) (sSkip)) (sSeq (sRet (mAndV (mOp2 fEq (mOp1L fLenA 0) (mOp1L fLenA 1)) (mOp1 fAll (mLc (iZip (mACons (mVar 0) (mACons (mVar 1) (mANil)))) [2, 3] (gT (gsCons (gV 2) (gsCons (gV 3) (gsNil)))) mYes (ce1__law_is F))))) (sSkip))) (sSkip)) (sSeq (sIf (mOr (mB (mCB fIsi (mACons (mVar 1) (mACons (mC (.ty "dict")) (mANil))))) (mB (mCB fIsi (mACons (mVar 0) (mACons (mC (.ty "dict")) (mANil)))))) (sSeq (sRet (mAndV (mCB fIsi (mACons (mVar 1) (mACons (mC (.ty "dict")) (mANil)))) (mAndV (mCB fIsi (mACons (mVar 0) (mACons (mC (.ty "dict")) (mANil)))) (mOp2L fEq 0 (mVar 1))))) (sSkip)) (sSkip)) (sSeq (sIf (mOr (mB (mOp2L fIsN 1 (mC .non))) (mB (mOp2L fIsN 0 (mC .non)))) (sSeq (sRet (mAndV (mOp2L fIsN 1 (mC .non)) (mOp2L fIsN 0 (mC .non)))) (sSkip)) (sSkip)) (sSeq (sIf (mOr (mB (mCB fIsi (mACons (mVar 1) (mACons (mC (.ty "bool")) (mANil))))) (mB (mCB fIsi (mACons (mVar 0) (mACons (mC (.ty "bool")) (mANil)))))) (sSeq (sRet (mAndV (mCB fIsi (mACons (mVar 1) (mACons (mC (.ty "bool")) (mANil)))) (mAndV (mCB fIsi (mACons (mVar 0) (mACons (mC (.ty "bool")) (mANil)))) (mOp2L fEq 0 (mVar 1))))) (sSkip)) (sSkip)) (sSeq (sIf (mOr (mB (mCB fIsi (mACons (mVar 1) (mACons (mC (.ty "str")) (mANil))))) (mB (mCB fIsi (mACons (mVar 0) (mACons (mC (.ty "str")) (mANil)))))) (sSeq (sRet (mAndV (mCB fIsi (mACons (mVar 1) (mACons (mC (.ty "str")) (mANil)))) (mAndV (mCB fIsi (mACons (mVar 0) (mACons (mC (.ty "str")) (mANil)))) (mOp2L fEq 0 (mVar 1))))) (sSkip)) (sSkip)) (sSeq (sRet (mAndV (mCB fIsi (mACons (mVar 0) (mACons (mC (.ty "int")) (mANil)))) (mOp2L fEq 0 (mVar 1)))) (sSkip))))))
noncomputable def R__law_is : Nat → Fun
  | 0 => fun _ _ => .stk
  | n + 1 => bodyF 4 (b__law_is (R__law_is n))
noncomputable def F__law_is : Fun := R__law_is 8
theorem g__law_is {P : Program} {wo : World} {K : PySem.W.Frag} {mg : Str → Option Value} {base : Heap} {f : Addr} {fd : FuncData} (D : FnP K "_law_is" s__law_is f fd) (m_self : mg "_law_is" = some (.ref f)) (m_isinstance : mg "isinstance" = none) (m_list : mg "list" = none) (m_tuple : mg "tuple" = none) (m_all : mg "all" = none) (m_zip : mg "zip" = none) (m_len : mg "len" = none) (m_dict : mg "dict" = none) (m_bool : mg "bool" = none) (m_str : mg "str" = none) (m_int : mg "int" = none) : ∀ n : Nat, FnG P wo K mg base (n + 1) f fd ["thing", "due"] (R__law_is n)
  | 0 => ⟨fun _ _ _ _ _ _ _ _ _ _ _ _ _ _ _ _ _ _ _ _ h => h.elim⟩
  | n + 1 => by
    have ih := g__law_is (P := P) (wo := wo) (base := base) D m_self m_isinstance m_list m_tuple m_all m_zip m_len m_dict m_bool m_str m_int n
    have c__law_is : CalG P wo K mg base (n + 1) 2 "_law_is" (R__law_is n) := ⟨_, _, _, ih, m_self, D.kp, D.bindsN (fun _ _ _ _ _ _ us hl => match us, hl with | [_, _], _ => rfl), rfl⟩
    obtain ⟨oc, od, dV, kV, doc, pm, an, cdv, ct, osl, rfl, lk, hcd, _, _⟩ := D.ex
    have sc := sc__law_is
    refine (fnG_of (k := n + 1) (n := 4) (F := b__law_is (R__law_is n)) lk hcd sc rfl fun A outer s H E hr hgd => ?_).mono (by omega)
    exact dss_cons (ds_if (PW.pt (dw_or (dt_val (de_bN call_isi oc_isi rfl m_isinstance rfl (da_cons (de_var (pv 1)) (da_cons (de_ty rfl m_tuple rfl) (da_nil))))) (dw_or1 (dt_val (de_bN call_isi oc_isi rfl m_isinstance rfl (da_cons (de_var (pv 1)) (da_cons (de_ty rfl m_list rfl) (da_nil)))))))) (dss_cons (ds_if (PW.pt (dw_or (t_ne hr.units (de_bN call_isi oc_isi rfl m_isinstance rfl (da_cons (de_var (pv 1)) (da_cons (de_ty rfl m_tuple rfl) (da_nil)))) (de_bN call_isi oc_isi rfl m_isinstance rfl (da_cons (de_var (pv 0)) (da_cons (de_ty rfl m_tuple rfl) (da_nil))))) (dw_or1 (t_ne hr.units (de_bN call_isi oc_isi rfl m_isinstance rfl (da_cons (de_var (pv 1)) (da_cons (de_ty rfl m_list rfl) (da_nil)))) (de_bN call_isi oc_isi rfl m_isinstance rfl (da_cons (de_var (pv 0)) (da_cons (de_ty rfl m_list rfl) (da_nil)))))))) (dss_cons (ds_ret (de_bl)) (dss_nil)) (dss_nil)) (dss_cons (ds_ret (de_and (d_eq hr.units (de_b1L cr_lenA oq_lenA rfl m_len rfl (pv 0)) (de_b1L cr_lenA oq_lenA rfl m_len rfl (pv 1))) (de_one (de_b1 (cr_all rfl) oq_all rfl m_all rfl (de_lc rfl rfl sc.nd (di_zip rfl m_zip (da_cons (de_var (pv 0)) (da_cons (de_var (pv 1)) (da_nil)))) (blkOk_by (own := [("one", 2), ("its", 3)]) (N := ["thing", "due", "one", "its"]) (sc := defScope s__law_is) (by decide +kernel)) (tgok_tup (tgsok_cons (tgok_name (by decide)) (tgsok_cons (tgok_name (by decide)) (tgsok_nil))) (gsCons_len (gsCons_len gsNil_len))) (fun _ _ _ _ _ => pg_tup rfl (pgs_cons (pg_name (i := 2) sc.nd rfl (Or.inl rfl)) (pgs_cons (pg_name (i := 3) sc.nd rfl (Or.inl rfl)) (pgs_nil)))) (fun _ _ _ _ _ => dts_nil) (fun _ _ _ _ _ => de_call c__law_is (hr.mono (by first | decide | omega)) hgd LamX.takes0 rfl (da_cons (de_var (pv 2)) (da_cons (de_var (pv 3)) (da_nil))) (hal := (mACons_len (mACons_len mANil_len))))))))) (dss_nil))) (dss_nil)) (dss_cons (ds_if (PW.pt (dw_or (dt_val (de_bN call_isi oc_isi rfl m_isinstance rfl (da_cons (de_var (pv 1)) (da_cons (de_ty rfl m_dict rfl) (da_nil))))) (dw_or1 (dt_val (de_bN call_isi oc_isi rfl m_isinstance rfl (da_cons (de_var (pv 0)) (da_cons (de_ty rfl m_dict rfl) (da_nil)))))))) (dss_cons (ds_ret (de_and (de_bN call_isi oc_isi rfl m_isinstance rfl (da_cons (de_var (pv 1)) (da_cons (de_ty rfl m_dict rfl) (da_nil)))) (de_and (de_bN call_isi oc_isi rfl m_isinstance rfl (da_cons (de_var (pv 0)) (da_cons (de_ty rfl m_dict rfl) (da_nil)))) (de_one (d_eqL hr.units (pv 0) (de_var (pv 1))))))) (dss_nil)) (dss_nil)) (dss_cons (ds_if (PW.pt (dw_or (t_isnL (pv 1) (de_non)) (dw_or1 (t_isnL (pv 0) (de_non))))) (dss_cons (ds_ret (de_and (d_isnL (pv 1) (de_non)) (de_one (d_isnL (pv 0) (de_non))))) (dss_nil)) (dss_nil)) (dss_cons (ds_if (PW.pt (dw_or (dt_val (de_bN call_isi oc_isi rfl m_isinstance rfl (da_cons (de_var (pv 1)) (da_cons (de_ty rfl m_bool rfl) (da_nil))))) (dw_or1 (dt_val (de_bN call_isi oc_isi rfl m_isinstance rfl (da_cons (de_var (pv 0)) (da_cons (de_ty rfl m_bool rfl) (da_nil)))))))) (dss_cons (ds_ret (de_and (de_bN call_isi oc_isi rfl m_isinstance rfl (da_cons (de_var (pv 1)) (da_cons (de_ty rfl m_bool rfl) (da_nil)))) (de_and (de_bN call_isi oc_isi rfl m_isinstance rfl (da_cons (de_var (pv 0)) (da_cons (de_ty rfl m_bool rfl) (da_nil)))) (de_one (d_eqL hr.units (pv 0) (de_var (pv 1))))))) (dss_nil)) (dss_nil)) (dss_cons (ds_if (PW.pt (dw_or (dt_val (de_bN call_isi oc_isi rfl m_isinstance rfl (da_cons (de_var (pv 1)) (da_cons (de_ty rfl m_str rfl) (da_nil))))) (dw_or1 (dt_val (de_bN call_isi oc_isi rfl m_isinstance rfl (da_cons (de_var (pv 0)) (da_cons (de_ty rfl m_str rfl) (da_nil)))))))) (dss_cons (ds_ret (de_and (de_bN call_isi oc_isi rfl m_isinstance rfl (da_cons (de_var (pv 1)) (da_cons (de_ty rfl m_str rfl) (da_nil)))) (de_and (de_bN call_isi oc_isi rfl m_isinstance rfl (da_cons (de_var (pv 0)) (da_cons (de_ty rfl m_str rfl) (da_nil)))) (de_one (d_eqL hr.units (pv 0) (de_var (pv 1))))))) (dss_nil)) (dss_nil)) (dss_cons (ds_ret (de_and (de_bN call_isi oc_isi rfl m_isinstance rfl (da_cons (de_var (pv 0)) (da_cons (de_ty rfl m_int rfl) (da_nil)))) (de_one (d_eqL hr.units (pv 0) (de_var (pv 1)))))) (dss_nil))))))
/-! _law_deep -/
abbrev s__law_deep : Stmt := top 34
theorem sc__law_deep : FnScope ["turns", "thing", "turn"] ["turns"] (defScope s__law_deep) := ⟨rfl, rfl, rfl, by decide +kernel, rfl, by decide +kernel, by decide +kernel⟩
noncomputable def fb1__law_deep : M Fl := sSeq (sAsg 1 (mIf (mB (mOp2L fLt 2 (mC (.int 5)))) (mTup (mACons (mVar 1) (mANil))) (mLst (mACons (mVar 1) (mANil))))) (sSkip)
noncomputable def b__law_deep : M Fl := sSeq (sAsg 1 (mC (.str "-"))) (sSeq (sFor (iRg1 (mVar 0)) (gV 2) fb1__law_deep) (sSeq (sRet (mVar 1)) (sSkip)))
noncomputable def F__law_deep : Fun := bodyF 3 b__law_deep
theorem g__law_deep {P : Program} {wo : World} {K : PySem.W.Frag} {mg : Str → Option Value} {base : Heap} {f : Addr} {fd : FuncData} (D : FnP K "_law_deep" s__law_deep f fd) (m_range : mg "range" = none) : FnG P wo K mg base 1 f fd ["turns"] F__law_deep := by
  obtain ⟨oc, od, dV, kV, doc, pm, an, cdv, ct, osl, rfl, lk, hcd, _, _⟩ := D.ex
  have sc := sc__law_deep
  refine fnG_of (k := 0) (n := 3) (F := b__law_deep) lk hcd sc rfl fun A outer s H E hr hgd => ?_
  exact dss_cons (ds_asg (i := 1) sc.nd rfl (Or.inl rfl) (de_str)) (dss_cons (ds_for (passes_of rfl) rfl (di_rg1 rfl m_range (de_var (pv 0))) (dg_name (i := 2) sc.nd rfl (Or.inl rfl)) (dss_cons (ds_asg (i := 1) sc.nd rfl (Or.inl rfl) (de_if (t_ltL (pv 2) (de_int)) (de_tup (da_cons (de_var (pv 1)) (da_nil))) (de_lst (da_cons (de_var (pv 1)) (da_nil))))) (dss_nil))) (dss_cons (ds_ret (de_var (pv 1))) (dss_nil)))
/-! _law_low -/
abbrev s__law_low : Stmt := top 35
theorem sc__law_low : FnScope ["top", "bottom", "one", "other"] ["top", "bottom"] (defScope s__law_low) := ⟨rfl, rfl, rfl, by decide +kernel, rfl, by decide +kernel, by decide +kernel⟩
noncomputable def wc1__law_low : M Bool := mB (mOp2L fGt 3 (mC (.int 0)))
noncomputable def wb1__law_low : M Fl := sSeq (sPar2 2 3 (mVar 3) (mOp2 fOpMod (mOp1 fInt (mVar 2)) (mVar 3))) (sSkip)
noncomputable def b__law_low : M Fl := sSeq (sPar2 2 3 (mOp1L fAbs 0) (mOp1L fAbs 1)) (sSeq (sWh wc1__law_low wb1__law_low) (sSeq (sAsg 2 (mIf (mB (mOp2L fGt 1 (mC (.int 0)))) (mVar 2) (mOp2 fOpSub (mC (.int 0)) (mVar 2)))) (sSeq (sRet (mTup (mACons (mOp2L fOpDiv 0 (mVar 2)) (mACons (mOp2L fOpDiv 1 (mVar 2)) (mANil))))) (sSkip))))
noncomputable def F__law_low : Fun := bodyF 4 b__law_low
theorem g__law_low {P : Program} {wo : World} {K : PySem.W.Frag} {mg : Str → Option Value} {base : Heap} {f : Addr} {fd : FuncData} (D : FnP K "_law_low" s__law_low f fd) (m_abs : mg "abs" = none) (m_int : mg "int" = none) : FnG P wo K mg base 1 f fd ["top", "bottom"] F__law_low := by
  obtain ⟨oc, od, dV, kV, doc, pm, an, cdv, ct, osl, rfl, lk, hcd, _, _⟩ := D.ex
  have sc := sc__law_low
  refine fnG_of (k := 0) (n := 4) (F := b__law_low) lk hcd sc rfl fun A outer s H E hr hgd => ?_
  exact dss_cons (ds_par2 (i := 2) (j := 3) rfl sc.nd rfl rfl (by decide) rfl rfl (de_b1L call_abs oq_abs rfl m_abs rfl (pv 0)) (de_b1L call_abs oq_abs rfl m_abs rfl (pv 1)) rfl) (dss_cons (ds_while (passes_of rfl) (t_gtL (pv 3) (de_int)) (dss_cons (ds_par2 (i := 2) (j := 3) rfl sc.nd rfl rfl (by decide) rfl rfl (de_var (pv 3)) (d_mod (de_t1 call_int1 oq_int rfl m_int rfl (de_var (pv 2))) (de_var (pv 3))) rfl) (dss_nil))) (dss_cons (ds_asg (i := 2) sc.nd rfl (Or.inl rfl) (de_if (t_gtL (pv 1) (de_int)) (de_var (pv 2)) (d_sub (de_int) (de_var (pv 2))))) (dss_cons (ds_ret (de_tup (da_cons (d_divL (pv 0) (de_var (pv 2))) (da_cons (d_divL (pv 1) (de_var (pv 2))) (da_nil))))) (dss_nil))))
/-! _law_divisor -/
abbrev s__law_divisor : Stmt := top 36
theorem sc__law_divisor : FnScope ["one", "its"] ["one", "its"] (defScope s__law_divisor) := ⟨rfl, rfl, rfl, by decide +kernel, rfl, by decide +kernel, by decide +kernel⟩
noncomputable def wc1__law_divisor : M Bool := mB (mOp2L fGt 1 (mC (.int 0)))
noncomputable def wb1__law_divisor : M Fl := sSeq (sPar2 0 1 (mVar 1) (mOp2 fOpMod (mOp1 fInt (mVar 0)) (mVar 1))) (sSkip)
noncomputable def b__law_divisor : M Fl := sSeq (sWh wc1__law_divisor wb1__law_divisor) (sSeq (sRet (mVar 0)) (sSkip))
noncomputable def F__law_divisor : Fun := bodyF 2 b__law_divisor
theorem g__law_divisor {P : Program} {wo : World} {K : PySem.W.Frag} {mg : Str → Option Value} {base : Heap} {f : Addr} {fd : FuncData} (D : FnP K "_law_divisor" s__law_divisor f fd) (m_int : mg "int" = none) : FnG P wo K mg base 1 f fd ["one", "its"] F__law_divisor := by
  obtain ⟨oc, od, dV, kV, doc, pm, an, cdv, ct, osl, rfl, lk, hcd, _, _⟩ := D.ex
  have sc := sc__law_divisor
  refine fnG_of (k := 0) (n := 2) (F := b__law_divisor) lk hcd sc rfl fun A outer s H E hr hgd => ?_
  exact dss_cons (ds_while (passes_of rfl) (t_gtL (pv 1) (de_int)) (dss_cons (ds_par2 (i := 0) (j := 1) rfl sc.nd rfl rfl (by decide) rfl rfl (de_var (pv 1)) (d_mod (de_t1 call_int1 oq_int rfl m_int rfl (de_var (pv 0))) (de_var (pv 1))) rfl) (dss_nil))) (dss_cons (ds_ret (de_var (pv 0))) (dss_nil))
/-! _law_x -/
abbrev s__law_x : Stmt := top 37
theorem sc__law_x : FnScope ["hand", "most"] ["hand"] (defScope s__law_x) := ⟨rfl, rfl, rfl, by decide +kernel, rfl, by decide +kernel, by decide +kernel⟩
noncomputable def b__law_x : M Fl := sSeq (sAsg 1 (mFn F__law_some (mACons (mVar 0) (mACons (mLst (mACons (mC (.int 12)) (mACons (mC (.int 60)) (mACons (mC (.int 400)) (mANil))))) (mANil))))) (sSeq (sRet (mFn F__law_low (mACons (mFn F__law_draw (mACons (mVar 0) (mACons (mOp2 fOpMul (mC (.int 4)) (mVar 1)) (mANil)))) (mACons (mOp2 fOpAdd (mC (.int 1)) (mFn F__law_draw (mACons (mVar 0) (mACons (mVar 1) (mANil))))) (mANil))))) (sSkip))
noncomputable def F__law_x : Fun := bodyF 2 b__law_x
theorem g__law_x {P : Program} {wo : World} {K : PySem.W.Frag} {mg : Str → Option Value} {base : Heap} {f : Addr} {fd : FuncData} (D : FnP K "_law_x" s__law_x f fd) (c__law_some : CalG P wo K mg base 2 2 "_law_some" F__law_some) (c__law_draw : CalG P wo K mg base 1 2 "_law_draw" F__law_draw) (c__law_low : CalG P wo K mg base 1 2 "_law_low" F__law_low) : FnG P wo K mg base 3 f fd ["hand"] F__law_x := by
  obtain ⟨oc, od, dV, kV, doc, pm, an, cdv, ct, osl, rfl, lk, hcd, _, _⟩ := D.ex
  have sc := sc__law_x
  refine fnG_of (k := 2) (n := 2) (F := b__law_x) lk hcd sc rfl fun A outer s H E hr hgd => ?_
  exact dss_cons (ds_asg (i := 1) sc.nd rfl (Or.inl rfl) (de_call c__law_some (hr.mono (by first | decide | omega)) hgd (takes_of rfl rfl rfl rfl) rfl (da_cons (de_var (pv 0)) (da_cons (de_lst (da_cons (de_int) (da_cons (de_int) (da_cons (de_int) (da_nil))))) (da_nil))) (hal := (mACons_len (mACons_len mANil_len))))) (dss_cons (ds_ret (de_call c__law_low (hr.mono (by first | decide | omega)) hgd (takes_of rfl rfl rfl rfl) rfl (da_cons (de_call c__law_draw (hr.mono (by first | decide | omega)) hgd (takes_of rfl rfl rfl rfl) rfl (da_cons (de_var (pv 0)) (da_cons (d_mul (de_int) (de_var (pv 1))) (da_nil))) (hal := (mACons_len (mACons_len mANil_len)))) (da_cons (d_add (de_int) (de_call c__law_draw (hr.mono (by first | decide | omega)) hgd (takes_of rfl rfl rfl rfl) rfl (da_cons (de_var (pv 0)) (da_cons (de_var (pv 1)) (da_nil))) (hal := (mACons_len (mACons_len mANil_len))))) (da_nil))) (hal := (mACons_len (mACons_len mANil_len))))) (dss_nil))
/-! _law_stay -/
abbrev s__law_stay : Stmt := top 38
theorem sc__law_stay : FnScope ["bottom", "b", "left", "common"] ["bottom", "b"] (defScope s__law_stay) := ⟨rfl, rfl, rfl, by decide +kernel, rfl, by decide +kernel, by decide +kernel⟩
noncomputable def wc1__law_stay : M Bool := mB (mOp2L fGt 3 (mC (.int 1)))
noncomputable def wb1__law_stay : M Fl := sSeq (sAsg 2 (mOp2L fOpDiv 2 (mVar 3))) (sSeq (sAsg 3 (mFn F__law_divisor (mACons (mVar 2) (mACons (mVar 1) (mANil))))) (sSkip))
noncomputable def b__law_stay : M Fl := sSeq (sAsg 2 (mVar 0)) (sSeq (sAsg 3 (mFn F__law_divisor (mACons (mVar 2) (mACons (mVar 1) (mANil))))) (sSeq (sWh wc1__law_stay wb1__law_stay) (sSeq (sRet (mVar 2)) (sSkip))))
noncomputable def F__law_stay : Fun := bodyF 4 b__law_stay
theorem g__law_stay {P : Program} {wo : World} {K : PySem.W.Frag} {mg : Str → Option Value} {base : Heap} {f : Addr} {fd : FuncData} (D : FnP K "_law_stay" s__law_stay f fd) (c__law_divisor : CalG P wo K mg base 1 2 "_law_divisor" F__law_divisor) : FnG P wo K mg base 2 f fd ["bottom", "b"] F__law_stay := by
  obtain ⟨oc, od, dV, kV, doc, pm, an, cdv, ct, osl, rfl, lk, hcd, _, _⟩ := D.ex
  have sc := sc__law_stay
  refine fnG_of (k := 1) (n := 4) (F := b__law_stay) lk hcd sc rfl fun A outer s H E hr hgd => ?_
  exact dss_cons (ds_asg (i := 2) sc.nd rfl (Or.inl rfl) (de_var (pv 0))) (dss_cons (ds_asg (i := 3) sc.nd rfl (Or.inl rfl) (de_call c__law_divisor (hr.mono (by first | decide | omega)) hgd (takes_of rfl rfl rfl rfl) rfl (da_cons (de_var (pv 2)) (da_cons (de_var (pv 1)) (da_nil))) (hal := (mACons_len (mACons_len mANil_len))))) (dss_cons (ds_while (passes_of rfl) (t_gtL (pv 3) (de_int)) (dss_cons (ds_asg (i := 2) sc.nd rfl (Or.inl rfl) (d_divL (pv 2) (de_var (pv 3)))) (dss_cons (ds_asg (i := 3) sc.nd rfl (Or.inl rfl) (de_call c__law_divisor (hr.mono (by first | decide | omega)) hgd (takes_of rfl rfl rfl rfl) rfl (da_cons (de_var (pv 2)) (da_cons (de_var (pv 1)) (da_nil))) (hal := (mACons_len (mACons_len mANil_len))))) (dss_nil)))) (dss_cons (ds_ret (de_var (pv 2))) (dss_nil))))
/-! _law_all_digits -/
abbrev s__law_all_digits : Stmt := top 39
theorem sc__law_all_digits : FnScope ["x", "b", "rest", "found"] ["x", "b"] (defScope s__law_all_digits) := ⟨rfl, rfl, rfl, by decide +kernel, rfl, by decide +kernel, by decide +kernel⟩
noncomputable def wc1__law_all_digits : M Bool := mB (mOp2L fGt 2 (mC (.int 0)))
noncomputable def wb1__law_all_digits : M Fl := sSeq (sExpr (mApp 3 (mOp2 fOpDiv (mOp2L fOpMul 2 (mVar 1)) (mOp2L fIx 0 (mC (.int 1)))))) (sSeq (sAsg 2 (mOp2 fOpMod (mOp1 fInt (mOp2L fOpMul 2 (mVar 1))) (mOp2L fIx 0 (mC (.int 1))))) (sSkip))
noncomputable def b__law_all_digits : M Fl := sSeq (sPar2 2 3 (mOp2 fOpMod (mOp1 fInt (mOp2L fIx 0 (mC (.int 0)))) (mOp2L fIx 0 (mC (.int 1)))) (mLst (mANil))) (sSeq (sWh wc1__law_all_digits wb1__law_all_digits) (sSeq (sRet (mOp1 fTuple (mVar 3))) (sSkip)))
noncomputable def F__law_all_digits : Fun := bodyF 4 b__law_all_digits
theorem g__law_all_digits {P : Program} {wo : World} {K : PySem.W.Frag} {mg : Str → Option Value} {base : Heap} {f : Addr} {fd : FuncData} (D : FnP K "_law_all_digits" s__law_all_digits f fd) (m_int : mg "int" = none) (m_tuple : mg "tuple" = none) : FnG P wo K mg base 1 f fd ["x", "b"] F__law_all_digits := by
  obtain ⟨oc, od, dV, kV, doc, pm, an, cdv, ct, osl, rfl, lk, hcd, _, _⟩ := D.ex
  have sc := sc__law_all_digits
  refine fnG_of (k := 0) (n := 4) (F := b__law_all_digits) lk hcd sc rfl fun A outer s H E hr hgd => ?_
  exact dss_cons (ds_par2 (i := 2) (j := 3) rfl sc.nd rfl rfl (by decide) rfl rfl (d_mod (de_t1 call_int1 oq_int rfl m_int rfl (d_ixL (pv 0) (de_int))) (d_ixL (pv 0) (de_int))) (de_lst (da_nil)) rfl) (dss_cons (ds_while (passes_of rfl) (t_gtL (pv 2) (de_int)) (dss_cons (ds_expr (de_app (pv 3) (d_div (d_mulL (pv 2) (de_var (pv 1))) (d_ixL (pv 0) (de_int))))) (dss_cons (ds_asg (i := 2) sc.nd rfl (Or.inl rfl) (d_mod (de_t1 call_int1 oq_int rfl m_int rfl (d_mulL (pv 2) (de_var (pv 1)))) (d_ixL (pv 0) (de_int)))) (dss_nil)))) (dss_cons (ds_ret (de_t1 call_tuple_of oq_tuple rfl m_tuple rfl (de_var (pv 3)))) (dss_nil)))
/-! _law_wrong -/
abbrev s__law_wrong : Stmt := top 40
theorem sc__law_wrong : FnScope ["hand", "x", "b", "told", "word", "paper", "found"] ["hand", "x", "b", "told"] (defScope s__law_wrong) := ⟨rfl, rfl, rfl, by decide +kernel, rfl, by decide +kernel, by decide +kernel⟩
noncomputable def b__law_wrong : M Fl := sSeq (sAsgG (mVar 3) (gT (gsCons (gV 4) (gsCons (gV 5) (gsNil))))) (sSeq (sAsg 6 (mLst (mACons (mC .non) (mACons (mTup (mANil)) (mACons (mC (.int 0)) (mACons (mDNew) (mACons (mVar 4) (mACons (mOp1 fList (mVar 3)) (mACons (mOp2L fOpAdd 3 (mTup (mACons (mC (.int 0)) (mANil)))) (mACons (mTup (mACons (mVar 4) (mANil))) (mACons (mTup (mACons (mC (.str "Ends")) (mACons (mVar 5) (mANil)))) (mACons (mTup (mACons (mC (.str "stays")) (mACons (mC (.int 1)) (mANil)))) (mANil))))))))))))) (sSeq (sAsg 6 (mOp2L fOpAdd 6 (mLst (mACons (mTup (mACons (mC (.str "stays")) (mACons (mC (.int 0)) (mANil)))) (mACons (mTup (mACons (mC (.str "stays")) (mACons (mOp2 fOpAdd (mOp2L fIx 1 (mC (.int 1))) (mC (.int 1))) (mANil)))) (mANil)))))) (sSeq (sAsg 6 (mOp2L fOpAdd 6 (mLst (mACons (mTup (mACons (mC (.str "stays")) (mACons (mC (.bl true)) (mANil)))) (mACons (mTup (mACons (mC (.str "stays")) (mACons (mC .non) (mANil)))) (mACons (mTup (mACons (mC (.str "ends")) (mACons (mC .non) (mANil)))) (mACons (mTup (mACons (mC (.str "ends")) (mACons (mLst (mACons (mC (.int 0)) (mANil))) (mANil)))) (mACons (mTup (mACons (mC (.str "ends")) (mACons (mTup (mACons (mVar 2) (mANil))) (mANil)))) (mANil))))))))) (sSeq (sAsg 6 (mOp2L fOpAdd 6 (mLst (mACons (mTup (mACons (mC (.str "ends")) (mACons (mTup (mACons (mC (.bl true)) (mANil))) (mANil)))) (mACons (mFn F__law_deep (mACons (mC (.int 12)) (mANil))) (mANil)))))) (sSeq (sIf (mB (mOp2L fEq 4 (mC (.str "ends")))) (sSeq (sAsg 6 (mOp2L fOpAdd 6 (mLst (mACons (mTup (mACons (mC (.str "ends")) (mACons (mOp2L fOpAdd 5 (mTup (mACons (mC (.int 1)) (mANil)))) (mANil)))) (mACons (mTup (mACons (mC (.str "ends")) (mACons (mOp2 fOpAdd (mOp2 fOpAdd (mTup (mACons (mC (.int 0)) (mANil))) (mVar 5)) (mTup (mACons (mC (.int 1)) (mANil)))) (mANil)))) (mACons (mTup (mACons (mC (.str "stays")) (mACons (mOp2L fIx 1 (mC (.int 1))) (mANil)))) (mANil))))))) (sSkip)) (sSeq (sAsg 6 (mOp2L fOpAdd 6 (mLst (mACons (mTup (mACons (mC (.str "ends")) (mACons (mOp2 fIx (mFn F_written (mACons (mVar 1) (mACons (mVar 2) (mACons (mC (.int 6)) (mANil))))) (mC (.int 1))) (mANil)))) (mACons (mTup (mACons (mC (.str "ends")) (mACons (mTup (mANil)) (mANil)))) (mACons (mTup (mACons (mC (.str "stays")) (mACons (mOp2 fOpSub (mC (.int 0)) (mVar 5)) (mANil)))) (mANil))))))) (sSkip))) (sSeq (sRet (mVar 6)) (sSkip)))))))
noncomputable def F__law_wrong : Fun := bodyF 7 b__law_wrong
theorem g__law_wrong {P : Program} {wo : World} {K : PySem.W.Frag} {mg : Str → Option Value} {base : Heap} {f : Addr} {fd : FuncData} (D : FnP K "_law_wrong" s__law_wrong f fd) (c__law_deep : CalG P wo K mg base 1 1 "_law_deep" F__law_deep) (c_written : CalG P wo K mg base 6 3 "written" F_written) (m_list : mg "list" = none) : FnG P wo K mg base 7 f fd ["hand", "x", "b", "told"] F__law_wrong := by
  obtain ⟨oc, od, dV, kV, doc, pm, an, cdv, ct, osl, rfl, lk, hcd, _, _⟩ := D.ex
  have sc := sc__law_wrong
  refine fnG_of (k := 6) (n := 7) (F := b__law_wrong) lk hcd sc rfl fun A outer s H E hr hgd => ?_
  exact dss_cons (ds_asgG (de_var (pv 3)) (dg_tup rfl (dgs_cons (dg_name (i := 4) sc.nd rfl (Or.inl rfl)) (dgs_cons (dg_name (i := 5) sc.nd rfl (Or.inl rfl)) (dgs_nil))) (gsCons_len (gsCons_len gsNil_len)))) (dss_cons (ds_asg (i := 6) sc.nd rfl (Or.inl rfl) (de_lst (da_cons (de_non) (da_cons (de_tup (da_nil)) (da_cons (de_int) (da_cons (de_dnew) (da_cons (de_var (pv 4)) (da_cons (de_t1 call_list_of oq_list rfl m_list rfl (de_var (pv 3))) (da_cons (d_addL (pv 3) (de_tup (da_cons (de_int) (da_nil)))) (da_cons (de_tup (da_cons (de_var (pv 4)) (da_nil))) (da_cons (de_tup (da_cons (de_str) (da_cons (de_var (pv 5)) (da_nil)))) (da_cons (de_tup (da_cons (de_str) (da_cons (de_int) (da_nil)))) (da_nil))))))))))))) (dss_cons (ds_asg (i := 6) sc.nd rfl (Or.inl rfl) (d_addL (pv 6) (de_lst (da_cons (de_tup (da_cons (de_str) (da_cons (de_int) (da_nil)))) (da_cons (de_tup (da_cons (de_str) (da_cons (d_add (d_ixL (pv 1) (de_int)) (de_int)) (da_nil)))) (da_nil)))))) (dss_cons (ds_asg (i := 6) sc.nd rfl (Or.inl rfl) (d_addL (pv 6) (de_lst (da_cons (de_tup (da_cons (de_str) (da_cons (de_bl) (da_nil)))) (da_cons (de_tup (da_cons (de_str) (da_cons (de_non) (da_nil)))) (da_cons (de_tup (da_cons (de_str) (da_cons (de_non) (da_nil)))) (da_cons (de_tup (da_cons (de_str) (da_cons (de_lst (da_cons (de_int) (da_nil))) (da_nil)))) (da_cons (de_tup (da_cons (de_str) (da_cons (de_tup (da_cons (de_var (pv 2)) (da_nil))) (da_nil)))) (da_nil))))))))) (dss_cons (ds_asg (i := 6) sc.nd rfl (Or.inl rfl) (d_addL (pv 6) (de_lst (da_cons (de_tup (da_cons (de_str) (da_cons (de_tup (da_cons (de_bl) (da_nil))) (da_nil)))) (da_cons (de_call c__law_deep (hr.mono (by first | decide | omega)) hgd (takes_of rfl rfl rfl rfl) rfl (da_cons (de_int) (da_nil)) (hal := (mACons_len mANil_len))) (da_nil)))))) (dss_cons (ds_if (t_eqL hr.units (pv 4) (de_str)) (dss_cons (ds_asg (i := 6) sc.nd rfl (Or.inl rfl) (d_addL (pv 6) (de_lst (da_cons (de_tup (da_cons (de_str) (da_cons (d_addL (pv 5) (de_tup (da_cons (de_int) (da_nil)))) (da_nil)))) (da_cons (de_tup (da_cons (de_str) (da_cons (d_add (d_add (de_tup (da_cons (de_int) (da_nil))) (de_var (pv 5))) (de_tup (da_cons (de_int) (da_nil)))) (da_nil)))) (da_cons (de_tup (da_cons (de_str) (da_cons (d_ixL (pv 1) (de_int)) (da_nil)))) (da_nil))))))) (dss_nil)) (dss_cons (ds_asg (i := 6) sc.nd rfl (Or.inl rfl) (d_addL (pv 6) (de_lst (da_cons (de_tup (da_cons (de_str) (da_cons (d_ix (de_call c_written (hr.mono (by first | decide | omega)) hgd (takes_of rfl rfl rfl rfl) rfl (da_cons (de_var (pv 1)) (da_cons (de_var (pv 2)) (da_cons (de_int) (da_nil)))) (hal := (mACons_len (mACons_len (mACons_len mANil_len))))) (de_int)) (da_nil)))) (da_cons (de_tup (da_cons (de_str) (da_cons (de_tup (da_nil)) (da_nil)))) (da_cons (de_tup (da_cons (de_str) (da_cons (d_sub (de_int) (de_var (pv 5))) (da_nil)))) (da_nil))))))) (dss_nil))) (dss_cons (ds_ret (de_var (pv 6))) (dss_nil)))))))
/-! _law_is_right -/
abbrev s__law_is_right : Stmt := top 41
theorem sc__law_is_right : FnScope ["hand", "x", "b", "told", "digits", "top", "thing", "kept", "most", "some", "number"] ["hand"] (defScope s__law_is_right) := ⟨rfl, rfl, rfl, by decide +kernel, rfl, by decide +kernel, by decide +kernel⟩
noncomputable def fb1__law_is_right : M Fl := sSeq (sAsg 7 (mOp1L fReprE 6)) (sSeq (sIf (mOr (mB (mOp2 fNotB (mFn F_is_ends (mACons (mVar 1) (mACons (mVar 2) (mACons (mVar 6) (mANil))))) (mC (.bl false)))) (mB (mOp2 fNe (mOp1L fReprE 6) (mVar 7)))) (sSeq (sRet (mC (.bl false))) (sSkip)) (sSkip)) (sSkip))
noncomputable def ce1__law_is_right : M DV := mVar 10
noncomputable def ct1__law_is_right : M Bool := mB (mOp2 fEq (mFn F__law_stay (mACons (mVar 10) (mACons (mVar 2) (mANil)))) (mC (.int 1)))
noncomputable def ce2__law_is_right : M DV := mVar 10
noncomputable def ct2__law_is_right : M Bool := mB (mOp2L fGt 10 (mC (.int 1)))
noncomputable def q1__law_is_right : M Fl := sSeq (sRet (mOp2 fEq (mLc (iSeq (mFn F_back_pairs (mACons (mVar 2) (mACons (mVar 8) (mANil))))) [10] (gV 10) ct2__law_is_right ce2__law_is_right) (mVar 9))) (sSkip)
noncomputable def q2__law_is_right : M Fl := sSeq (sAsg 9 (mLc (iRg2 (mC (.int 2)) (mOp2L fOpAdd 8 (mC (.int 1)))) [10] (gV 10) ct1__law_is_right ce1__law_is_right)) (q1__law_is_right)
noncomputable def q3__law_is_right : M Fl := sSeq (sAsg 8 (mOp2 fOpAdd (mC (.int 1)) (mFn F__law_draw (mACons (mVar 0) (mACons (mC (.int 120)) (mANil)))))) (q2__law_is_right)
noncomputable def q4__law_is_right : M Fl := sSeq (sFor (iSeq (mFn F__law_wrong (mACons (mVar 0) (mACons (mVar 1) (mACons (mVar 2) (mACons (mVar 3) (mANil))))))) (gV 6) fb1__law_is_right) (q3__law_is_right)
noncomputable def q5__law_is_right : M Fl := sSeq (sIf (mB (mOp2 fNotB (mFn F_is_ends (mACons (mVar 1) (mACons (mVar 2) (mACons (mVar 3) (mANil))))) (mC (.bl true)))) (sSeq (sRet (mC (.bl false))) (sSkip)) (sSkip)) (q4__law_is_right)
noncomputable def q6__law_is_right : M Fl := sSeq (sIf (mB (mOp2 fEq (mOp2L fIx 3 (mC (.int 0))) (mC (.str "ends")))) (sSeq (sAsg 4 (mFn F__law_all_digits (mACons (mVar 1) (mACons (mVar 2) (mANil))))) (sSeq (sIf (mOr (mNot (mB (mFn F__law_is (mACons (mVar 3) (mACons (mTup (mACons (mC (.str "ends")) (mACons (mVar 4) (mANil)))) (mANil)))))) (mAnd (mB (mOp2 fLt (mOp1L fLenA 4) (mC (.int 13)))) (mB (mOp2 fNe (mOp2 fIx (mFn F_written (mACons (mVar 1) (mACons (mVar 2) (mACons (mOp1L fLenA 4) (mANil))))) (mC (.int 1))) (mVar 4))))) (sSeq (sRet (mC (.bl false))) (sSkip)) (sSkip)) (sSkip))) (sSeq (sAsg 5 (mOp2L fIx 3 (mC (.int 1)))) (sSeq (sIf (mOr (mNot (mB (mCB fIsi (mACons (mVar 5) (mACons (mC (.ty "int")) (mANil)))))) (mOr (mB (mCB fIsi (mACons (mVar 5) (mACons (mC (.ty "bool")) (mANil))))) (mOr (mB (mOp2L fLt 5 (mC (.int 2)))) (mB (mOp2 fNe (mOp2 fOpMod (mOp1 fInt (mOp2L fIx 1 (mC (.int 1)))) (mVar 5)) (mC (.int 0))))))) (sSeq (sRet (mC (.bl false))) (sSkip)) (sSkip)) (sSeq (sIf (mB (mOp2 fNe (mFn F__law_divisor (mACons (mVar 5) (mACons (mVar 2) (mANil)))) (mC (.int 1)))) (sSeq (sRet (mC (.bl false))) (sSkip)) (sSkip)) (sSkip))))) (q5__law_is_right)
noncomputable def q7__law_is_right : M Fl := sSeq (sIf (mB (mOp2 fNe (mOp2 fEq (mOp2L fIx 3 (mC (.int 0))) (mC (.str "ends"))) (mOp2 fEq (mFn F__law_stay (mACons (mOp2L fIx 1 (mC (.int 1))) (mACons (mVar 2) (mANil)))) (mC (.int 1))))) (sSeq (sRet (mC (.bl false))) (sSkip)) (sSkip)) (q6__law_is_right)
noncomputable def q8__law_is_right : M Fl := sSeq (sAsg 3 (mFn F_ends (mACons (mVar 1) (mACons (mVar 2) (mANil))))) (q7__law_is_right)
noncomputable def q9__law_is_right : M Fl := sSeq (sIf (mB (mOp2 fEq (mFn F__law_draw (mACons (mVar 0) (mACons (mC (.int 3)) (mANil)))) (mC (.int 0)))) (sSeq (sAsg 1 (mFn F__law_low (mACons (mFn F__law_draw (mACons (mVar 0) (mACons (mC (.int 200)) (mANil)))) (mACons (mFn F__law_some (mACons (mVar 0) (mACons (mLst (mACons (mVar 2) (mACons (mOp2L fOpMul 2 (mVar 2)) (mACons (mOp2 fOpMul (mC (.int 2)) (mVar 2)) (mACons (mOp2 fOpMul (mC (.int 3)) (mVar 2)) (mANil)))))) (mANil)))) (mANil))))) (sSkip)) (sSkip)) (q8__law_is_right)
noncomputable def b__law_is_right : M Fl := sSeq (sAsgG (mTup (mACons (mFn F__law_x (mACons (mVar 0) (mANil))) (mACons (mOp2 fOpAdd (mC (.int 2)) (mFn F__law_draw (mACons (mVar 0) (mACons (mC (.int 59)) (mANil))))) (mANil)))) (gT (gsCons (gV 1) (gsCons (gV 2) (gsNil))))) (q9__law_is_right)
noncomputable def F__law_is_right : Fun := bodyF 11 b__law_is_right
theorem g__law_is_right {P : Program} {wo : World} {K : PySem.W.Frag} {mg : Str → Option Value} {base : Heap} {f : Addr} {fd : FuncData} (D : FnP K "_law_is_right" s__law_is_right f fd) (c__law_x : CalG P wo K mg base 3 1 "_law_x" F__law_x) (c__law_draw : CalG P wo K mg base 1 2 "_law_draw" F__law_draw) (c__law_some : CalG P wo K mg base 2 2 "_law_some" F__law_some) (c__law_low : CalG P wo K mg base 1 2 "_law_low" F__law_low) (c_ends : CalG P wo K mg base 5 2 "ends" F_ends) (c__law_stay : CalG P wo K mg base 2 2 "_law_stay" F__law_stay) (c__law_all_digits : CalG P wo K mg base 1 2 "_law_all_digits" F__law_all_digits) (c_written : CalG P wo K mg base 6 3 "written" F_written) (c__law_is : CalG P wo K mg base 9 2 "_law_is" F__law_is) (c__law_divisor : CalG P wo K mg base 1 2 "_law_divisor" F__law_divisor) (c_is_ends : CalG P wo K mg base 5 3 "is_ends" F_is_ends) (c__law_wrong : CalG P wo K mg base 7 4 "_law_wrong" F__law_wrong) (c_back_pairs : CalG P wo K mg base 4 2 "back_pairs" F_back_pairs) (m_len : mg "len" = none) (m_int : mg "int" = none) (m_isinstance : mg "isinstance" = none) (m_bool : mg "bool" = none) (m_repr : mg "repr" = none) (m_range : mg "range" = none) : FnG P wo K mg base 10 f fd ["hand"] F__law_is_right := by
  obtain ⟨oc, od, dV, kV, doc, pm, an, cdv, ct, osl, rfl, lk, hcd, _, _⟩ := D.ex
  have sc := sc__law_is_right
  refine fnG_of (k := 9) (n := 11) (F := b__law_is_right) lk hcd sc rfl fun A outer s H E hr hgd => ?_
  exact dss_cons (ds_asgG (de_tup (da_cons (de_call c__law_x (hr.mono (by first | decide | omega)) hgd (takes_of rfl rfl rfl rfl) rfl (da_cons (de_var (pv 0)) (da_nil)) (hal := (mACons_len mANil_len))) (da_cons (d_add (de_int) (de_call c__law_draw (hr.mono (by first | decide | omega)) hgd (takes_of rfl rfl rfl rfl) rfl (da_cons (de_var (pv 0)) (da_cons (de_int) (da_nil))) (hal := (mACons_len (mACons_len mANil_len))))) (da_nil)))) (dg_tup rfl (dgs_cons (dg_name (i := 1) sc.nd rfl (Or.inl rfl)) (dgs_cons (dg_name (i := 2) sc.nd rfl (Or.inr rfl)) (dgs_nil))) (gsCons_len (gsCons_len gsNil_len)))) (dss_cons (ds_if (t_eq hr.units (de_call c__law_draw (hr.mono (by first | decide | omega)) hgd (takes_of rfl rfl rfl rfl) rfl (da_cons (de_var (pv 0)) (da_cons (de_int) (da_nil))) (hal := (mACons_len (mACons_len mANil_len)))) (de_int)) (dss_cons (ds_asg (i := 1) sc.nd rfl (Or.inl rfl) (de_call c__law_low (hr.mono (by first | decide | omega)) hgd (takes_of rfl rfl rfl rfl) rfl (da_cons (de_call c__law_draw (hr.mono (by first | decide | omega)) hgd (takes_of rfl rfl rfl rfl) rfl (da_cons (de_var (pv 0)) (da_cons (de_int) (da_nil))) (hal := (mACons_len (mACons_len mANil_len)))) (da_cons (de_call c__law_some (hr.mono (by first | decide | omega)) hgd (takes_of rfl rfl rfl rfl) rfl (da_cons (de_var (pv 0)) (da_cons (de_lst (da_cons (de_var (pv 2)) (da_cons (d_mulL (pv 2) (de_var (pv 2))) (da_cons (d_mul (de_int) (de_var (pv 2))) (da_cons (d_mul (de_int) (de_var (pv 2))) (da_nil)))))) (da_nil))) (hal := (mACons_len (mACons_len mANil_len)))) (da_nil))) (hal := (mACons_len (mACons_len mANil_len))))) (dss_nil)) (dss_nil)) (dss_cons (ds_asg (i := 3) sc.nd rfl (Or.inl rfl) (de_call c_ends (hr.mono (by first | decide | omega)) hgd (takes_of rfl rfl rfl rfl) rfl (da_cons (de_var (pv 1)) (da_cons (de_var (pv 2)) (da_nil))) (hal := (mACons_len (mACons_len mANil_len))))) (dss_cons (ds_if (t_ne hr.units (d_eq hr.units (d_ixL (pv 3) (de_int)) (de_str)) (d_eq hr.units (de_call c__law_stay (hr.mono (by first | decide | omega)) hgd (takes_of rfl rfl rfl rfl) rfl (da_cons (d_ixL (pv 1) (de_int)) (da_cons (de_var (pv 2)) (da_nil))) (hal := (mACons_len (mACons_len mANil_len)))) (de_int))) (dss_cons (ds_ret (de_bl)) (dss_nil)) (dss_nil)) (dss_cons (ds_if (t_eq hr.units (d_ixL (pv 3) (de_int)) (de_str)) (dss_cons (ds_asg (i := 4) sc.nd rfl (Or.inl rfl) (de_call c__law_all_digits (hr.mono (by first | decide | omega)) hgd (takes_of rfl rfl rfl rfl) rfl (da_cons (de_var (pv 1)) (da_cons (de_var (pv 2)) (da_nil))) (hal := (mACons_len (mACons_len mANil_len))))) (dss_cons (ds_if (PW.pt (dw_or (dt_not (dt_val (de_call c__law_is (hr.mono (by first | decide | omega)) hgd (takes_of rfl rfl rfl rfl) rfl (da_cons (de_var (pv 3)) (da_cons (de_tup (da_cons (de_str) (da_cons (de_var (pv 4)) (da_nil)))) (da_nil))) (hal := (mACons_len (mACons_len mANil_len)))))) (dw_or1 (PW.pt (dw_and (t_lt (de_b1L cr_lenA oq_lenA rfl m_len rfl (pv 4)) (de_int)) (dw_and1 (t_ne hr.units (d_ix (de_call c_written (hr.mono (by first | decide | omega)) hgd (takes_of rfl rfl rfl rfl) rfl (da_cons (de_var (pv 1)) (da_cons (de_var (pv 2)) (da_cons (de_b1L cr_lenA oq_lenA rfl m_len rfl (pv 4)) (da_nil)))) (hal := (mACons_len (mACons_len (mACons_len mANil_len))))) (de_int)) (de_var (pv 4))))))))) (dss_cons (ds_ret (de_bl)) (dss_nil)) (dss_nil)) (dss_nil))) (dss_cons (ds_asg (i := 5) sc.nd rfl (Or.inl rfl) (d_ixL (pv 3) (de_int))) (dss_cons (ds_if (PW.pt (dw_or (dt_not (dt_val (de_bN call_isi oc_isi rfl m_isinstance rfl (da_cons (de_var (pv 5)) (da_cons (de_ty rfl m_int rfl) (da_nil)))))) (dw_or (dt_val (de_bN call_isi oc_isi rfl m_isinstance rfl (da_cons (de_var (pv 5)) (da_cons (de_ty rfl m_bool rfl) (da_nil))))) (dw_or (t_ltL (pv 5) (de_int)) (dw_or1 (t_ne hr.units (d_mod (de_t1 call_int1 oq_int rfl m_int rfl (d_ixL (pv 1) (de_int))) (de_var (pv 5))) (de_int))))))) (dss_cons (ds_ret (de_bl)) (dss_nil)) (dss_nil)) (dss_cons (ds_if (t_ne hr.units (de_call c__law_divisor (hr.mono (by first | decide | omega)) hgd (takes_of rfl rfl rfl rfl) rfl (da_cons (de_var (pv 5)) (da_cons (de_var (pv 2)) (da_nil))) (hal := (mACons_len (mACons_len mANil_len)))) (de_int)) (dss_cons (ds_ret (de_bl)) (dss_nil)) (dss_nil)) (dss_nil))))) (dss_cons (ds_if (t_notb (de_call c_is_ends (hr.mono (by first | decide | omega)) hgd (takes_of rfl rfl rfl rfl) rfl (da_cons (de_var (pv 1)) (da_cons (de_var (pv 2)) (da_cons (de_var (pv 3)) (da_nil)))) (hal := (mACons_len (mACons_len (mACons_len mANil_len))))) (de_bl)) (dss_cons (ds_ret (de_bl)) (dss_nil)) (dss_nil)) (dss_cons (ds_for (passes_of rfl) rfl (di_seq (de_call c__law_wrong (hr.mono (by first | decide | omega)) hgd (takes_of rfl rfl rfl rfl) rfl (da_cons (de_var (pv 0)) (da_cons (de_var (pv 1)) (da_cons (de_var (pv 2)) (da_cons (de_var (pv 3)) (da_nil))))) (hal := (mACons_len (mACons_len (mACons_len (mACons_len mANil_len))))))) (dg_name (i := 6) sc.nd rfl (Or.inl rfl)) (dss_cons (ds_asg (i := 7) sc.nd rfl (Or.inl rfl) (de_b1L (cr_reprA hgd hr.units) oq_reprA rfl m_repr rfl (pv 6))) (dss_cons (ds_if (PW.pt (dw_or (t_notb (de_call c_is_ends (hr.mono (by first | decide | omega)) hgd (takes_of rfl rfl rfl rfl) rfl (da_cons (de_var (pv 1)) (da_cons (de_var (pv 2)) (da_cons (de_var (pv 6)) (da_nil)))) (hal := (mACons_len (mACons_len (mACons_len mANil_len))))) (de_bl)) (dw_or1 (t_ne hr.units (de_b1L (cr_reprA hgd hr.units) oq_reprA rfl m_repr rfl (pv 6)) (de_var (pv 7)))))) (dss_cons (ds_ret (de_bl)) (dss_nil)) (dss_nil)) (dss_nil)))) (dss_cons (ds_asg (i := 8) sc.nd rfl (Or.inl rfl) (d_add (de_int) (de_call c__law_draw (hr.mono (by first | decide | omega)) hgd (takes_of rfl rfl rfl rfl) rfl (da_cons (de_var (pv 0)) (da_cons (de_int) (da_nil))) (hal := (mACons_len (mACons_len mANil_len)))))) (dss_cons (ds_asgLc (i := 9) rfl rfl sc.nd rfl rfl (sw_true rfl rfl rfl (by decide +kernel)) (di_rg2 rfl m_range (de_int) (d_addL (pv 8) (de_int))) (blkOk_by (own := [("number", 10)]) (N := ["hand", "x", "b", "told", "digits", "top", "thing", "kept", "most", "some", "number"]) (sc := defScope s__law_is_right) (by decide +kernel)) (tgok_name (by decide)) (fun _ _ _ _ _ => pg_name (i := 10) sc.nd rfl (Or.inl rfl)) (fun _ _ _ _ _ => dts_one (t_eq hr.units (de_call c__law_stay (hr.mono (by first | decide | omega)) hgd LamX.takes0 rfl (da_cons (de_var (pv 10)) (da_cons (de_var (pv 2)) (da_nil))) (hal := (mACons_len (mACons_len mANil_len)))) (de_int))) (fun _ _ _ _ _ => de_var (pv 10))) (dss_cons (ds_ret (d_eq hr.units (de_lc rfl rfl sc.nd (di_seq (de_call c_back_pairs (hr.mono (by first | decide | omega)) hgd (takes_of rfl rfl rfl rfl) rfl (da_cons (de_var (pv 2)) (da_cons (de_var (pv 8)) (da_nil))) (hal := (mACons_len (mACons_len mANil_len))))) (blkOk_by (own := [("number", 10)]) (N := ["hand", "x", "b", "told", "digits", "top", "thing", "kept", "most", "some", "number"]) (sc := defScope s__law_is_right) (by decide +kernel)) (tgok_name (by decide)) (fun _ _ _ _ _ => pg_name (i := 10) sc.nd rfl (Or.inl rfl)) (fun _ _ _ _ _ => dts_one (t_gtL (pv 10) (de_int))) (fun _ _ _ _ _ => de_var (pv 10))) (de_var (pv 9)))) (dss_nil))))))))))
/-! law -/
abbrev s_law : Stmt := top 42
theorem sc_law : FnScope ["script", "hand", "number", "turn"] ["script"] (defScope s_law) := ⟨rfl, rfl, rfl, by decide +kernel, rfl, by decide +kernel, by decide +kernel⟩
noncomputable def ce1_law : M DV := mVar 2
noncomputable def ct1_law : M Bool := mB (mOp2L fGt 2 (mC (.int 1)))
noncomputable def ce2_law : M DV := mFn F__law_is_right (mACons (mVar 1) (mANil))
noncomputable def b_law : M Fl := sSeq (sAsg 1 (mFn F__law_hand (mACons (mVar 0) (mANil)))) (sSeq (sIf (mOr (mB (mOp2 fNe (mFn F_ends (mACons (mTup (mACons (mC (.int 1)) (mACons (mC (.int 8)) (mANil)))) (mACons (mC (.int 10)) (mANil)))) (mTup (mACons (mC (.str "ends")) (mACons (mTup (mACons (mC (.int 1)) (mACons (mC (.int 2)) (mACons (mC (.int 5)) (mANil))))) (mANil)))))) (mB (mOp2 fNe (mFn F_ends (mACons (mTup (mACons (mC (.int 7)) (mACons (mC (.int 1)) (mANil)))) (mACons (mC (.int 10)) (mANil)))) (mTup (mACons (mC (.str "ends")) (mACons (mTup (mANil)) (mANil))))))) (sSeq (sRet (mC (.bl false))) (sSkip)) (sSkip)) (sSeq (sIf (mB (mOp2 fNe (mFn F_ends (mACons (mTup (mACons (mC (.int 1)) (mACons (mC (.int 7)) (mANil)))) (mACons (mC (.int 60)) (mANil)))) (mTup (mACons (mC (.str "stays")) (mACons (mC (.int 7)) (mANil)))))) (sSeq (sRet (mC (.bl false))) (sSkip)) (sSkip)) (sSeq (sIf (mB (mOp2 fNe (mLc (iSeq (mFn F_back_pairs (mACons (mC (.int 60)) (mACons (mC (.int 16)) (mANil))))) [2] (gV 2) ct1_law ce1_law) (mLst (mACons (mC (.int 2)) (mACons (mC (.int 3)) (mACons (mC (.int 4)) (mACons (mC (.int 5)) (mACons (mC (.int 6)) (mACons (mC (.int 8)) (mACons (mC (.int 9)) (mACons (mC (.int 10)) (mACons (mC (.int 12)) (mACons (mC (.int 15)) (mACons (mC (.int 16)) (mANil))))))))))))))) (sSeq (sRet (mC (.bl false))) (sSkip)) (sSkip)) (sSeq (sRet (mOp1 fAll (mLc (iRg1 (mC (.int 6))) [3] (gV 3) mYes ce2_law))) (sSkip)))))
noncomputable def F_law : Fun := bodyF 4 b_law
theorem g_law {P : Program} {wo : World} {K : PySem.W.Frag} {mg : Str → Option Value} {base : Heap} {f : Addr} {fd : FuncData} (D : FnP K "law" s_law f fd) (c__law_hand : CalG P wo K mg base 1 1 "_law_hand" F__law_hand) (c_ends : CalG P wo K mg base 5 2 "ends" F_ends) (c_back_pairs : CalG P wo K mg base 4 2 "back_pairs" F_back_pairs) (c__law_is_right : CalG P wo K mg base 10 1 "_law_is_right" F__law_is_right) (m_all : mg "all" = none) (m_range : mg "range" = none) : FnG P wo K mg base 11 f fd ["script"] F_law := by
  obtain ⟨oc, od, dV, kV, doc, pm, an, cdv, ct, osl, rfl, lk, hcd, _, _⟩ := D.ex
  have sc := sc_law
  refine fnG_of (k := 10) (n := 4) (F := b_law) lk hcd sc rfl fun A outer s H E hr hgd => ?_
  exact dss_cons (ds_asg (i := 1) sc.nd rfl (Or.inr rfl) (de_call c__law_hand (hr.mono (by first | decide | omega)) hgd (takes_of rfl rfl rfl rfl) rfl (da_cons (de_var (pv 0)) (da_nil)) (hal := (mACons_len mANil_len)))) (dss_cons (ds_if (PW.pt (dw_or (t_ne hr.units (de_call c_ends (hr.mono (by first | decide | omega)) hgd (takes_of rfl rfl rfl rfl) rfl (da_cons (de_tup (da_cons (de_int) (da_cons (de_int) (da_nil)))) (da_cons (de_int) (da_nil))) (hal := (mACons_len (mACons_len mANil_len)))) (de_tup (da_cons (de_str) (da_cons (de_tup (da_cons (de_int) (da_cons (de_int) (da_cons (de_int) (da_nil))))) (da_nil))))) (dw_or1 (t_ne hr.units (de_call c_ends (hr.mono (by first | decide | omega)) hgd (takes_of rfl rfl rfl rfl) rfl (da_cons (de_tup (da_cons (de_int) (da_cons (de_int) (da_nil)))) (da_cons (de_int) (da_nil))) (hal := (mACons_len (mACons_len mANil_len)))) (de_tup (da_cons (de_str) (da_cons (de_tup (da_nil)) (da_nil)))))))) (dss_cons (ds_ret (de_bl)) (dss_nil)) (dss_nil)) (dss_cons (ds_if (t_ne hr.units (de_call c_ends (hr.mono (by first | decide | omega)) hgd (takes_of rfl rfl rfl rfl) rfl (da_cons (de_tup (da_cons (de_int) (da_cons (de_int) (da_nil)))) (da_cons (de_int) (da_nil))) (hal := (mACons_len (mACons_len mANil_len)))) (de_tup (da_cons (de_str) (da_cons (de_int) (da_nil))))) (dss_cons (ds_ret (de_bl)) (dss_nil)) (dss_nil)) (dss_cons (ds_if (t_ne hr.units (de_lc rfl rfl sc.nd (di_seq (de_call c_back_pairs (hr.mono (by first | decide | omega)) hgd (takes_of rfl rfl rfl rfl) rfl (da_cons (de_int) (da_cons (de_int) (da_nil))) (hal := (mACons_len (mACons_len mANil_len))))) (blkOk_by (own := [("number", 2)]) (N := ["script", "hand", "number", "turn"]) (sc := defScope s_law) (by decide +kernel)) (tgok_name (by decide)) (fun _ _ _ _ _ => pg_name (i := 2) sc.nd rfl (Or.inl rfl)) (fun _ _ _ _ _ => dts_one (t_gtL (pv 2) (de_int))) (fun _ _ _ _ _ => de_var (pv 2))) (de_lst (da_cons (de_int) (da_cons (de_int) (da_cons (de_int) (da_cons (de_int) (da_cons (de_int) (da_cons (de_int) (da_cons (de_int) (da_cons (de_int) (da_cons (de_int) (da_cons (de_int) (da_cons (de_int) (da_nil)))))))))))))) (dss_cons (ds_ret (de_bl)) (dss_nil)) (dss_nil)) (dss_cons (ds_ret (de_b1 (cr_all rfl) oq_all rfl m_all rfl (de_lc rfl rfl sc.nd (di_rg1 rfl m_range (de_int)) (blkOk_by (own := [("turn", 3)]) (N := ["script", "hand", "number", "turn"]) (sc := defScope s_law) (by decide +kernel)) (tgok_name (by decide)) (fun _ _ _ _ _ => pg_name (i := 3) sc.nd rfl (Or.inl rfl)) (fun _ _ _ _ _ => dts_nil) (fun _ _ _ _ _ => de_call c__law_is_right (hr.mono (by first | decide | omega)) hgd LamX.takes0 rfl (da_cons (de_var (pv 1)) (da_nil)) (hal := (mACons_len mANil_len)))))) (dss_nil)))))
end W
namespace W
open PySem PySem.Spec PyProof.Rows L2 DL
variable {m : List Ob}
theorem isT_ii : isT "int" "int" = true := by decide
theorem p_is_integer (i : Int) : F_is_integer [.int i] m = .ok (.val (.bl true)) m := by
  simp [F_is_integer, b_is_integer, bodyF, fIsi, tyD, knownT, isT]
theorem p_is_within (i a b : Int) : F_is_within [.int i, .int a, .int b] m = .ok (.val (.bl (decide (a ≤ i ∧ i ≤ b)))) m := by
  simp [F_is_within, b_is_within, bodyF, p_is_integer]
  by_cases h : a ≤ i <;> simp [h]
theorem p_divisor_loop : ∀ (n : Nat) (a b : Nat), b ≤ n → sWh wc1_divisor wb1_divisor ⟨[.val (.int a), .val (.int b)], m⟩ = .ok .nx ⟨[.val (.int (Nat.gcd a b)), .val (.int 0)], m⟩ := by
  intro n
  induction n with
  | zero =>
    intro a b h
    have : b = 0 := by omega
    subst this
    rw [sWh_false (S1 := ⟨[.val (.int a), .val (.int 0)], m⟩)]
    · simp
    · simp [wc1_divisor]
  | succ n ih =>
    intro a b h
    by_cases hb : b = 0
    · subst hb
      rw [sWh_false (S1 := ⟨[.val (.int a), .val (.int 0)], m⟩)]
      · simp
      · simp [wc1_divisor]
    · rw [sWh_true (S1 := ⟨[.val (.int a), .val (.int b)], m⟩) (S2 := ⟨[.val (.int b), .val (.int (a % b : Nat))], m⟩), ih b (a % b) (by have := Nat.mod_lt a (Nat.pos_of_ne_zero hb); omega)]
      · rw [Nat.gcd_comm a b, Nat.gcd_rec b a, Nat.gcd_comm]
      · simp [wc1_divisor, hb]
      · simp [wb1_divisor, hb, Int.fmod_eq_emod_of_nonneg]
theorem p_divisor (a b : Int) : F_divisor [.int a, .int b] m = .ok (.val (.int (Int.gcd a b))) m := by
  have e : ∀ x : Int, (if x < 0 then -x else x) = (x.natAbs : Int) := by intro x; split <;> omega
  simp [F_divisor, b_divisor, bodyF, e]
  rw [p_divisor_loop _ _ _ (Nat.le_refl _)]
  simp [Int.gcd]
def hnd (cs : List Int) (i : Nat) (b h n : Int) : Ob := .lst [.lst (cs.map .int), .int i, .int b, .int h, .int n]
def IsH (m : List Ob) : Prop := ∃ cs i b h n, m = [hnd cs i b h n]
@[simp] theorem pow1018 : fOpPow m (.int 10) (.int 18) = some (.val (.int 1000000000000000000)) := rfl
@[simp] theorem ixN_lit {n k : Nat} : ixN n (k : Int) = if k < n then some k else none := by
  unfold ixN
  rw [if_pos (by omega)]
  simp
theorem fmod_rng {a k : Int} (h : 0 < k) : 0 ≤ a.fmod k ∧ a.fmod k < k := by
  rw [Int.fmod_eq_emod_of_nonneg a (by omega)]
  exact ⟨Int.emod_nonneg _ (by omega), Int.emod_lt_of_pos _ h⟩
theorem p_draw (k : Int) (hk : 0 < k) (hk2 : k < 18446744073709551616) (H : IsH m) : ∃ r m', F__law_draw [.loc 0, .int k] m = .ok (.val (.int r)) m' ∧ IsH m' ∧ 0 ≤ r ∧ r < k := by
  obtain ⟨cs, i, b, h, n, rfl⟩ := H
  have dk := divOk_s hk hk2
  have k0 : k ≠ 0 := by omega
  have x1 : ixN 5 1 = some 1 := by decide
  have x2 : ixN 5 2 = some 2 := by decide
  have x3 : ixN 5 3 = some 3 := by decide
  have x4 : ixN 5 4 = some 4 := by decide
  have d1 : divOk 1009 = true := divOk_s (by decide) (by decide)
  have d2 : divOk 2003 = true := divOk_s (by decide) (by decide)
  have d3 : divOk 16 = true := divOk_s (by decide) (by decide)
  have m1 : ∀ x, mulOk x 69621 = true := fun x => mulOk_r (by decide)
  have m2 : ∀ x, mulOk 7919 x = true := fun x => mulOk_l (by decide)
  have m3 : ∀ x, mulOk x 48271 = true := fun x => mulOk_r (by decide)
  have m4 : ∀ (x y : Int), mulOk (x.fmod 2147483647) y = true := fun x y => mulOk_l (by have := fmod_rng (a := x) (k := 2147483647) (by decide); omega)
  generalize hF : F__law_draw [.loc 0, .int k] [hnd cs i b h n] = out
  have fin : ∀ {x : Int} {m'}, IsH m' → FR.ok (.val (.int (x.fmod k))) m' = out → ∃ r m', out = .ok (.val (.int r)) m' ∧ IsH m' ∧ 0 ≤ r ∧ r < k := fun hm e => ⟨_, _, e.symm, hm, fmod_rng hk⟩
  by_cases c1 : b = 0 ∧ i < cs.length
  · obtain ⟨rfl, c1⟩ := c1
    have at_ : (cs.map D.int)[i]? = some (.int cs[i]) := by rw [List.getElem?_map, List.getElem?_eq_getElem c1]; rfl
    by_cases c2 : 1000000000000000000 ≤ cs[i]
    · have c3 : 0 < cs[i] := by omega
      simp [F__law_draw, b__law_draw, bodyF, hnd, c1, atN, at_, x1, x2, x3, x4, d1, d2, d3, m1, m2, m3, m4, c2, c3, k0, dk] at hF
      exact fin ⟨cs, i + 1, _, _, _, rfl⟩ hF
    · simp [F__law_draw, b__law_draw, bodyF, hnd, c1, atN, at_, x1, x2, x3, x4, d1, d2, d3, m1, m2, m3, m4, c2, k0, dk] at hF
      exact fin ⟨cs, i + 1, _, _, _, rfl⟩ hF
  · have c1' : (b = 0 ∧ i < cs.length) = False := eq_false c1
    by_cases c3 : 0 < b
    · have hb : b ≠ 0 := by omega
      simp [F__law_draw, b__law_draw, bodyF, hnd, hb, x1, x2, x3, x4, d1, d2, d3, m1, m2, m3, m4, c3, k0, dk] at hF
      exact fin ⟨cs, i, _, _, _, rfl⟩ hF
    · by_cases hb : b = 0
      · subst hb
        have c1 : ¬ i < cs.length := fun z => c1 ⟨rfl, z⟩
        simp [F__law_draw, b__law_draw, bodyF, hnd, c1, x1, x2, x3, x4, d1, d2, d3, m1, m2, m3, m4, k0, dk] at hF
        exact fin ⟨cs, i, _, _, _, rfl⟩ hF
      · simp [F__law_draw, b__law_draw, bodyF, hnd, hb, x1, x2, x3, x4, d1, d2, d3, m1, m2, m3, m4, c3, k0, dk] at hF
        exact fin ⟨cs, i, _, _, _, rfl⟩ hF
theorem p_hand (ns : List Int) : ∃ m', F__law_hand [.frl (ns.map .int)] [] = .ok (.val (.loc 0)) m' ∧ IsH m' := by
  have e : mLc (iSeq (mSlL 0 oNo (oSo (mC (.int 63))))) [2] (gV 2) mYes ce1__law_hand ⟨[.val (.frl (ns.map .int)), .no, .no], []⟩ = _ :=
    mLc_all (ds := (ns.drop (HT.sIx ns.length 0 none)).take (HT.sIx ns.length ns.length (some 63) - HT.sIx ns.length 0 none)) (S1 := ⟨[.val (.frl (ns.map .int)), .no, .no], []⟩) D.int (fun i => .int (if i < 0 then -i else i)) (by simp [cutD_map]) (by
      rw [List.length_take]
      have : HT.sIx ns.length ns.length (some 63) ≤ 63 := by
        show (if (63 : Int) < 0 then (63 + (ns.length : Int)).toNat else min (63 : Int).toNat ns.length) ≤ 63
        simp
        omega
      simp only [sizeLine_val]
      omega) (fun i _ => by simp [ce1__law_hand, and_assoc])
  rw [show ∀ L : List Int, L.map (fun i => D.int (if i < 0 then -i else i)) = (L.map fun i => if i < 0 then -i else i).map D.int from fun L => by simp [List.map_map, Function.comp_def]] at e
  generalize List.map (fun i : Int => if i < 0 then -i else i) _ = cs at e
  generalize hF : F__law_hand [.frl (ns.map .int)] [] = out
  simp [F__law_hand, b__law_hand, bodyF, e] at hF
  exact ⟨_, hF.symm, cs, 0, 0, _, 0, rfl⟩
theorem p_low_loop (s0 s1 : Sl) (a b : Nat) : sWh wc1__law_low wb1__law_low ⟨[s0, s1, .val (.int a), .val (.int b)], m⟩ = .ok .nx ⟨[s0, s1, .val (.int (Nat.gcd a b)), .val (.int 0)], m⟩ :=
  gcd_loop (fun a b => ⟨[s0, s1, .val (.int a), .val (.int b)], m⟩) (fun x => by simp [wc1__law_low]) (fun x y hy => by simp [wc1__law_low, hy]) (fun x y hy => by
    have : y ≠ 0 := by omega
    simp [wb1__law_low, this, fmod_nat]) b a b (Nat.le_refl _)
theorem p_low (t : Int) (b : Nat) (hb : 0 < b) {n : Nat} (hb2 : b < 2 ^ n) (hn : n ≤ 9000) : F__law_low [.int t, .int b] m = .ok (.val (rD (mkRat t b))) m := by
  have hg : 0 < Int.gcd t b := Int.gcd_pos_of_ne_zero_right _ (by omega)
  have hg2 : Int.gcd t b ≤ b := by
    have := Int.gcd_dvd_right (a := t) (b := (b : Int))
    exact Nat.le_of_dvd hb (Int.natCast_dvd_natCast.mp this)
  have dk : divOk (Int.gcd t b : Int) = true := divOk_of (by omega) (b := n) (by rw [Int.natAbs_natCast]; exact Nat.lt_of_le_of_lt hg2 hb2) hn
  have e0 : (Nat.gcd t.natAbs (Int.natAbs b) : Int) = (Int.gcd t b : Int) := rfl
  rw [mkRat_D t hb]
  simp [F__law_low, b__law_low, bodyF, abs_nat]
  rw [show ((b : Int).natAbs) = b from rfl] at *
  rw [p_low_loop]
  have e1 : (Nat.gcd t.natAbs b : Int) = (Int.gcd t b : Int) := rfl
  simp [hb, e1, dk, Int.fdiv_eq_ediv_of_nonneg]
def fr (p q : Nat) : D := .tup [.int p, .int q]
theorem fr_q {p q : Nat} : (fr p q).q 1 = true := rfl
theorem p_is_tuple2 (a b : D) : F_is_tuple [.tup [a, b], .int 2, .int 2] m = .ok (.val (.bl true)) m := by
  simp [F_is_tuple, b_is_tuple, bodyF, fIsi, tyD, knownT, isT]
theorem p_reduced {p q : Nat} (hq : 0 < q) (hc : Nat.Coprime p q) : F_reduced [.int p, .int q] m = .ok (.val (fr p q)) m := by
  have e : Int.gcd p q = 1 := hc
  have d1 : divOk 1 = true := divOk_s (by decide) (by decide)
  have m1 : ∀ x, mulOk 1 x = true := fun x => mulOk_l (by decide)
  simp [F_reduced, b_reduced, bodyF, p_divisor, e, hq, d1, m1, fr]
theorem p_is_fraction {p q : Nat} (hq : 0 < q) (hc : Nat.Coprime p q) : F_is_fraction [fr p q] m = .ok (.val (.bl true)) m := by
  have e : mLc (iSeq (mVar 0)) [1] (gV 1) mYes ce1_is_fraction ⟨[.val (fr p q), .no], m⟩ = _ :=
    mLc_all (ds := [(p : Int), (q : Int)]) (S1 := ⟨[.val (fr p q), .no], m⟩) D.int (fun i => .bl true) (by simp [fr]) (by simp) (fun i _ => by simp [ce1_is_fraction, fIsi, tyD, knownT, isT, and_assoc])
  have e2 : F_is_tuple [fr p q, .int 2, .int 2] m = .ok (.val (.bl true)) m := p_is_tuple2 _ _
  have e3 : fEq m (fr p q) (fr p q) = some (.val (.bl true)) := by
    rw [fEq_q (n := 1) (k := 1) fr_q fr_q]
    simp [fr, deq_tup]
  simp only [fr] at e e2 e3 ⊢
  simp [F_is_fraction, b_is_fraction, bodyF, e, e2, blsD, p_reduced hq hc, hq, fr, e3]
theorem p_check_base {b : Nat} (h : 2 ≤ b) (h2 : b ≤ 60) : F_check_base [.int b] m = .ok (.val .non) m := by
  have h' : (2 : Int) ≤ b ∧ (b : Int) ≤ 60 := by omega
  simp [F_check_base, b_check_base, bodyF, p_is_within, h']
theorem p_check_part {p q b : Nat} (hq : 0 < q) (hc : Nat.Coprime p q) (h : 2 ≤ b) (h2 : b ≤ 60) : F_check_part [fr p q, .int b] m = .ok (.val .non) m := by
  have e := p_is_fraction (m := m) hq hc
  have hp : ¬ (p : Int) < 0 := by omega
  simp only [fr] at e ⊢
  simp [F_check_part, b_check_part, bodyF, p_check_base h h2, e, hp]
/-- the digits -/
def dig (b q : Nat) : Nat → Nat → List Nat
  | 0, _ => []
  | n + 1, r => r * b / q :: dig b q n (r * b % q)
def rst (b q : Nat) : Nat → Nat → Nat
  | 0, r => r
  | n + 1, r => rst b q n (r * b % q)
theorem dig_len {b q : Nat} : ∀ {n r : Nat}, (dig b q n r).length = n
  | 0, _ => rfl
  | n + 1, r => by rw [dig, List.length_cons, dig_len]
def enN (l : List Nat) : List D := l.map fun (d : Nat) => D.int d
theorem p_digits_loop {p q b : Nat} (hq : 0 < q) (hq2 : q < 18446744073709551616) (s2 s3 : Sl) (hb : b < 1000) : ∀ (ds : List D) (r : Nat) (found : List Nat) (s6 : Sl), found.length + ds.length ≤ 1000 →
    ∃ s6', sForL (gV 6) fb1_digits_of ds ⟨[.val (fr p q), .val (.int b), s2, s3, .val (.int r), .own (.lst (enN found)), s6], m⟩ =
      .ok .nx ⟨[.val (fr p q), .val (.int b), s2, s3, .val (.int (rst b q ds.length r)), .own (.lst (enN (found ++ dig b q ds.length r))), s6'], m⟩ := by
  intro ds
  induction ds with
  | nil => intro r found s6 _; exact ⟨s6, by simp [sForL_nil, rst, dig]⟩
  | cons d ds ih =>
    intro r found s6 hl
    rw [List.length_cons] at hl
    have dk : divOk q = true := divOk_s (by omega) (by omega)
    have mk : mulOk r b = true := mulOk_r (by omega)
    have q0 : q ≠ 0 := by omega
    obtain ⟨s6', e⟩ := ih (r * b % q) (found ++ [r * b / q]) (.val d) (by rw [List.length_append]; simp only [List.length_singleton]; omega)
    refine ⟨s6', ?_⟩
    have hl2 : (enN found).length < 16777216 := by simp only [enN, List.length_map]; omega
    rw [sForL_cons (S1 := ⟨[.val (fr p q), .val (.int b), s2, s3, .val (.int r), .own (.lst (enN found)), .val d], m⟩) (S2 := ⟨[.val (fr p q), .val (.int b), s2, s3, .val (.int (r * b % q : Nat)), .own (.lst (enN (found ++ [r * b / q]))), .val d], m⟩), e]
    · simp [rst, dig]
    · simp
    · have f1 : ((r : Int) * b).fdiv q = ((r * b / q : Nat) : Int) := by rw [← Int.natCast_mul, fdiv_nat]
      have f2 : ((r : Int) * b).fmod q = ((r * b % q : Nat) : Int) := by rw [← Int.natCast_mul, fmod_nat]
      simp [fb1_digits_of, fr, mk, dk, q0, hl2, f1, f2]
      simp [enN]
theorem p_digits {p q b n : Nat} (hq : 0 < q) (hq2 : q < 18446744073709551616) (hb : b < 1000) (hn : n ≤ 12) : F_digits_of [fr p q, .int b, .int n] m = .ok (.val (.tup [.int (p / q : Nat), .tup (enN (dig b q n (p % q)))])) m := by
  have dk : divOk q = true := divOk_s (by omega) (by omega)
  have q0 : q ≠ 0 := by omega
  obtain ⟨s6', e⟩ := p_digits_loop (m := m) (p := p) (b := b) hq hq2 (.val (.int n)) (.val (.int (p / q : Nat))) hb (rgD 0 n) (p % q) [] .no (by rw [rg_len]; simp; omega)
  have hr : -4611686018427387904 ≤ (n : Int) ∧ (n : Int) < 4611686018427387904 := by omega
  simp only [fr, enN, List.map_nil, List.nil_append, rg_len] at e
  simp only [fr]
  simp [F_digits_of, b_digits_of, bodyF, fr, dk, q0, fdiv_nat, fmod_nat, hr]
  simp only [Int.natCast_ediv, Int.natCast_emod] at e
  rw [e]
  simp [enN]
theorem p_is : ∀ (n : Nat) (d : D), D.tq n d → R__law_is (n + 1) [d, d] m = .ok (.val (.bl true)) m := by
  intro n
  induction n with
  | zero =>
    intro d h
    cases d with
    | int i => simp [R__law_is, b__law_is, bodyF, fIsi, tyD, knownT, isT, isNonD]
    | str x =>
      have h' : okStr x := h
      simp [R__law_is, b__law_is, bodyF, fIsi, tyD, knownT, isT, isNonD, fEq_str h' h']
    | _ => exact False.elim h
  | succ n ih =>
    intro d h
    cases d with
    | int i => simp [R__law_is, b__law_is, bodyF, fIsi, tyD, knownT, isT, isNonD]
    | str x =>
      have h' : okStr x := h
      simp [R__law_is, b__law_is, bodyF, fIsi, tyD, knownT, isT, isNonD, fEq_str h' h']
    | tup l =>
      have hl := h.1
      have e : mLc (iZip (mACons (mVar 0) (mACons (mVar 1) mANil))) [2, 3] (gT (gsCons (gV 2) (gsCons (gV 3) gsNil))) mYes (ce1__law_is (R__law_is (n + 1))) ⟨[.val (.tup l), .val (.tup l), .no, .no], m⟩ = _ :=
        mLc_all (ds := l) (S1 := ⟨[.val (.tup l), .val (.tup l), .no, .no], m⟩) (fun d => .tup [d, d]) (fun _ => .bl true) (by simp [zipD_self]) (by simp; omega) (fun d hd => by
          have hi := ih d (h.2 d hd)
          simp [ce1__law_is, hi, and_assoc])
      have ne : ∀ b : Bool, fNe m (.bl b) (.bl b) = some (.val (.bl false)) := fun b => by rw [fNe_q (n := 0) (k := 0) rfl rfl]; simp
      rw [R__law_is]
      simp [b__law_is, bodyF, fIsi, tyD, knownT, isT, isNonD, ne, e, blsD_true]
    | _ => exact False.elim h
structure Pq (p q b n : Nat) : Prop where
  q0 : 0 < q
  q1 : q < 5000
  p1 : p < 2000000
  co : Nat.Coprime p q
  b0 : 2 ≤ b
  b1 : b ≤ 60
  n1 : n ≤ 12
theorem p_check_written {p q b n : Nat} (X : Pq p q b n) : F_check_written [fr p q, .int b, .int n] m = .ok (.val .non) m := by
  have h' : (n : Int) ≤ 12 := by have := X.n1; omega
  have e := p_check_part (m := m) X.q0 X.co X.b0 X.b1
  simp [F_check_written, b_check_written, bodyF, p_is_within, h', e]
def wr (p q b n : Nat) : D := .tup [.int (p / q : Nat), .tup (enN (dig b q n (p % q)))]
theorem p_written {p q b n : Nat} (X : Pq p q b n) : F_written [fr p q, .int b, .int n] m = .ok (.val (wr p q b n)) m := by
  have e := p_check_written (m := m) X
  have e2 := p_digits (m := m) (p := p) (n := n) X.q0 (by have := X.q1; omega) (show b < 1000 by have := X.b1; omega) X.n1
  simp only [wr]
  simp [F_written, b_written, bodyF, e, e2]
theorem dig_lt {b q : Nat} (hb : 0 < b) (hq : 0 < q) : ∀ {n r : Nat}, r < q → ∀ d ∈ dig b q n r, d < b
  | 0, r, _, d, h => nomatch h
  | n + 1, r, hr, d, h => by
    rw [dig, List.mem_cons] at h
    rcases h with h | h
    · rw [h]
      rw [Nat.div_lt_iff_lt_mul hq, Nat.mul_comm b]
      exact Nat.mul_lt_mul_of_pos_right hr hb
    · exact dig_lt hb hq (Nat.mod_lt _ hq) d h
theorem p_some (l : List D) (h0 : l ≠ []) (h1 : l.length < 1000) (H : IsH m) : ∃ d m', F__law_some [.loc 0, .lst l] m = .ok (.val d) m' ∧ IsH m' ∧ d ∈ l := by
  have hl : 0 < l.length := List.length_pos_iff.mpr h0
  obtain ⟨r, m', e, H', r0, r1⟩ := p_draw (m := m) l.length (by omega) (by omega) H
  have hk : r.toNat < l.length := by omega
  refine ⟨l[r.toNat], m', ?_, H', List.getElem_mem hk⟩
  have e2 : atI l r = some l[r.toNat] := by
    have e3 : atI l r = atI l (r.toNat : Int) := by rw [show (r.toNat : Int) = r by omega]
    rw [e3, atN, List.getElem?_eq_getElem hk]
  simp [F__law_some, b__law_some, bodyF, e, e2]
theorem fr_of (t b : Nat) (hb : 0 < b) : ∃ p q, rD (mkRat t b) = fr p q ∧ 0 < q ∧ Nat.Coprime p q ∧ p ≤ t ∧ q ≤ b ∧ (mkRat t b) = mkRat p q := by
  have hg : 0 < Nat.gcd t b := Nat.gcd_pos_of_pos_right _ hb
  refine ⟨t / Nat.gcd t b, b / Nat.gcd t b, ?_, Nat.div_pos (Nat.le_of_dvd hb (Nat.gcd_dvd_right _ _)) hg, Nat.coprime_div_gcd_div_gcd hg, Nat.div_le_self _ _, Nat.div_le_self _ _, ?_⟩
  · rw [mkRat_D _ hb]
    rfl
  · have hb2 : 0 < b / Nat.gcd t b := Nat.div_pos (Nat.le_of_dvd hb (Nat.gcd_dvd_right _ _)) hg
    rw [Rat.mkRat_eq_iff (by omega) (by omega)]
    obtain ⟨c, hc⟩ := Nat.gcd_dvd_left t b
    obtain ⟨d, hd⟩ := Nat.gcd_dvd_right t b
    have e1 : t / Nat.gcd t b = c := Nat.div_eq_of_eq_mul_right hg hc
    have e2 : b / Nat.gcd t b = d := Nat.div_eq_of_eq_mul_right hg hd
    rw [e1, e2]
    have : t * d = c * b := by
      conv => lhs; rw [hc]
      conv => rhs; rw [hd]
      grind
    exact_mod_cast this
theorem p_x (H : IsH m) : ∃ p q m', F__law_x [.loc 0] m = .ok (.val (fr p q)) m' ∧ IsH m' ∧ 0 < q ∧ q ≤ 400 ∧ p ≤ 1600 ∧ Nat.Coprime p q := by
  obtain ⟨d, m1, e1, H1, hd⟩ := p_some (m := m) [.int 12, .int 60, .int 400] (by simp) (by simp) H
  obtain ⟨k, rfl, k0, k1⟩ : ∃ k : Int, d = .int k ∧ 12 ≤ k ∧ k ≤ 400 := by
    simp at hd
    rcases hd with rfl | rfl | rfl <;> exact ⟨_, rfl, by omega, by omega⟩
  obtain ⟨t, m2, e2, H2, t0, t1⟩ := p_draw (m := m1) (4 * k) (by omega) (by omega) H1
  obtain ⟨b, m3, e3, H3, b0, b1⟩ := p_draw (m := m2) k (by omega) (by omega) H2
  have o : mulOk 4 k = true := mulOk_l (by decide)
  obtain ⟨p, q, f1, f2, f3, f4, f5, _⟩ := fr_of t.toNat (1 + b).toNat (by omega)
  have L := p_low (m := m3) t (1 + b).toNat (n := 64) (by omega) (by omega) (by decide)
  rw [show ((1 + b).toNat : Int) = 1 + b by omega, show mkRat t (1 + b).toNat = mkRat (t.toNat : Int) (1 + b).toNat by rw [show (t.toNat : Int) = t by omega], f1] at L
  refine ⟨p, q, m3, ?_, H3, f2, by omega, by omega, f3⟩
  simp [F__law_x, b__law_x, bodyF, e1, e2, e3, o, L]
theorem rst_lt {b q : Nat} (hq : 0 < q) : ∀ {n r : Nat}, r < q → rst b q n r < q
  | 0, r, h => h
  | n + 1, r, _ => show rst b q n (r * b % q) < q from rst_lt (b := b) (n := n) hq (Nat.mod_lt _ hq)
theorem dig_last {b q : Nat} : ∀ {n r : Nat}, dig b q n r = (dig b q (n + 1) r).take n
  | 0, _ => rfl
  | n + 1, r => by
    show _ = (r * b / q :: dig b q (n + 1) (r * b % q)).take (n + 1)
    rw [dig, List.take_succ_cons, ← dig_last]
theorem wr_q {p q b n : Nat} : (wr p q b n).q 2 = true := by
  unfold wr enN
  simp only [D.q, List.all_cons, List.all_nil, List.all_map, Bool.and_true, Bool.true_and]
  exact List.all_eq_true.mpr fun x _ => rfl
theorem ne_same {d e : D} {n : Nat} (h : d.q n = true) (he : d = e) (hn : n ≤ 64) : fNe m d e = some (.val (.bl false)) := by
  subst he
  rw [fNe_q h h hn hn, deq_refl d (q_ok h).1]
  rfl
theorem eq_same {d e : D} {n : Nat} (h : d.q n = true) (he : d = e) (hn : n ≤ 64) : fEq m d e = some (.val (.bl true)) := by
  subst he
  rw [fEq_q h h hn hn, deq_refl d (q_ok h).1]
theorem wr_tq {p q b n : Nat} (hn : n ≤ 12) : D.tq 2 (wr p q b n) := by
  unfold wr enN
  refine ⟨by simp, fun d hd => ?_⟩
  simp at hd
  rcases hd with rfl | rfl
  · trivial
  · refine ⟨by rw [List.length_map, dig_len]; omega, fun e he => ?_⟩
    obtain ⟨x, _, rfl⟩ := List.mem_map.mp he
    trivial
theorem p_ldiv (a b : Nat) : F__law_divisor [.int a, .int b] m = .ok (.val (.int (Nat.gcd a b))) m := by
  have e := gcd_loop (c := wc1__law_divisor) (b := wb1__law_divisor) (fun a b => ⟨[.val (.int a), .val (.int b)], m⟩) (fun x => by simp [wc1__law_divisor]) (fun x y hy => by simp [wc1__law_divisor, hy]) (fun x y hy => by
    have : y ≠ 0 := by omega
    simp [wb1__law_divisor, this, fmod_nat]) b a b (Nat.le_refl _)
  simp at e
  simp [F__law_divisor, b__law_divisor, bodyF, e]
theorem p_stay_loop (s0 : Sl) (b : Nat) (hb : 0 < b) : ∀ (n l : Nat), l ≤ n → 0 < l → l < 18446744073709551616 → ∃ l' k : Nat, sWh wc1__law_stay wb1__law_stay ⟨[s0, .val (.int b), .val (.int l), .val (.int (Nat.gcd l b))], m⟩ = .ok .nx ⟨[s0, .val (.int b), .val (.int l'), .val (.int (Nat.gcd l' b))], m⟩ ∧ Nat.gcd l' b = 1 ∧ l' ∣ l ∧ l ∣ l' * b ^ k ∧ 0 < l' := by
  intro n
  induction n with
  | zero => intro l h h0; omega
  | succ n ih =>
    intro l h h0 hl
    have hg : 0 < Nat.gcd l b := Nat.gcd_pos_of_pos_left _ h0
    by_cases h1 : Nat.gcd l b = 1
    · refine ⟨l, 0, ?_, h1, Nat.dvd_refl _, by simp, h0⟩
      rw [sWh_false (S1 := ⟨[s0, .val (.int b), .val (.int l), .val (.int (Nat.gcd l b))], m⟩)]
      simp [wc1__law_stay, h1]
    · have hg2 : 1 < Nat.gcd l b := by omega
      have hd : Nat.gcd l b ∣ l := Nat.gcd_dvd_left _ _
      have hlt : l / Nat.gcd l b < l := Nat.div_lt_self h0 hg2
      have hpos : 0 < l / Nat.gcd l b := Nat.div_pos (Nat.le_of_dvd h0 hd) hg
      obtain ⟨l', k, e, q1, q2, q3, q4⟩ := ih (l / Nat.gcd l b) (by omega) hpos (by omega)
      have dk : divOk (Nat.gcd l b : Nat) = true := divOk_s (by omega) (by have := Nat.le_of_dvd h0 hd; omega)
      refine ⟨l', k + 1, ?_, q1, Nat.dvd_trans q2 (Nat.div_dvd_of_dvd hd), ?_, q4⟩
      · rw [sWh_true (S1 := ⟨[s0, .val (.int b), .val (.int l), .val (.int (Nat.gcd l b))], m⟩) (S2 := ⟨[s0, .val (.int b), .val (.int (l / Nat.gcd l b : Nat)), .val (.int (Nat.gcd (l / Nat.gcd l b) b))], m⟩), e]
        · have hg3 : (1 : Int) < (Nat.gcd l b : Nat) := by omega
          simp [wc1__law_stay, hg3]
        · simp [wb1__law_stay, dk, fdiv_nat]
          rw [← Int.natCast_ediv, p_ldiv]
          simp
      · have a : l = l / Nat.gcd l b * Nat.gcd l b := (Nat.div_mul_cancel hd).symm
        rw [a, Nat.pow_succ, ← Nat.mul_assoc]
        refine Nat.mul_dvd_mul ?_ (Nat.gcd_dvd_right _ _)
        exact q3
theorem p_stay {q b : Nat} (hb : 0 < b) (hq : 0 < q) (hq2 : q < 18446744073709551616) : ∃ l k : Nat, F__law_stay [.int q, .int b] m = .ok (.val (.int l)) m ∧ Nat.gcd l b = 1 ∧ l ∣ q ∧ q ∣ l * b ^ k ∧ 0 < l := by
  obtain ⟨l', k, e, q1, q2, q3, q4⟩ := p_stay_loop (m := m) (.val (.int q)) b hb q q (Nat.le_refl _) hq hq2
  refine ⟨l', k, ?_, q1, q2, q3, q4⟩
  simp [F__law_stay, b__law_stay, bodyF, p_ldiv]
  rw [e]
  simp
theorem rst_add {b q : Nat} : ∀ {i j r : Nat}, rst b q (i + j) r = rst b q j (rst b q i r)
  | 0, j, r => by rw [Nat.zero_add]; rfl
  | i + 1, j, r => by
    rw [show i + 1 + j = (i + j) + 1 by omega]
    show rst b q (i + j) (r * b % q) = rst b q j (rst b q i (r * b % q))
    exact rst_add
theorem rst_succ {b q i r : Nat} : rst b q (i + 1) r = rst b q i r * b % q := by
  rw [rst_add]
  rfl
theorem rst_pow {b q r : Nat} (hr : r < q) : ∀ k, rst b q k r = r * b ^ k % q
  | 0 => by simp [rst, Nat.mod_eq_of_lt hr]
  | k + 1 => by
    rw [rst_succ, rst_pow hr k, Nat.pow_succ, ← Nat.mul_assoc, Nat.mod_mul_mod]
def Rr (p q b : Nat) (k : Nat) : Nat := rst b q k (p % q)
theorem R_succ {k : Nat} : Rr p q b (k + 1) = Rr p q b k * b % q := rst_succ
theorem R_lt (hq : 0 < q) (i : Nat) : Rr p q b i < q := rst_lt hq (Nat.mod_lt _ hq)
theorem least {P : Nat → Prop} [DecidablePred P] : ∀ {n : Nat}, P n → ∃ t, t ≤ n ∧ P t ∧ ∀ j, j < t → ¬ P j := by
  intro n
  induction n using Nat.strongRecOn with
  | _ n ih =>
    intro h
    by_cases e : ∃ j, j < n ∧ P j
    · obtain ⟨j, hj, pj⟩ := e
      obtain ⟨t, ht, a, c⟩ := ih j hj pj
      exact ⟨t, by omega, a, c⟩
    · exact ⟨n, Nat.le_refl _, h, fun j hj pj => e ⟨j, hj, pj⟩⟩
theorem R_stay {p q b l : Nat} (hq : 0 < q) (hc : Nat.Coprime p q) (hl : 1 < l) (h1 : Nat.gcd l b = 1) (h2 : l ∣ q) (k : Nat) : 0 < Rr p q b k := by
  refine Nat.pos_of_ne_zero fun z => ?_
  unfold Rr at z
  rw [rst_pow (Nat.mod_lt _ hq), Nat.mod_mul_mod] at z
  have d1 : q ∣ p * b ^ k := Nat.dvd_of_mod_eq_zero z
  have d2 : l ∣ p * b ^ k := Nat.dvd_trans h2 d1
  have cp : Nat.Coprime l (b ^ k) := Nat.Coprime.pow_right k h1
  have d3 : l ∣ p := cp.dvd_of_dvd_mul_right d2
  have d4 : l ∣ Nat.gcd p q := Nat.dvd_gcd d3 h2
  rw [show Nat.gcd p q = 1 from hc] at d4
  have := Nat.le_of_dvd (by decide) d4
  omega
theorem R_end {p q b k : Nat} (hq : 0 < q) (h : q ∣ b ^ k) : Rr p q b k = 0 := by
  unfold Rr
  rw [rst_pow (Nat.mod_lt _ hq)]
  exact Nat.mod_eq_zero_of_dvd (Nat.dvd_trans h (Nat.dvd_mul_left _ _))
theorem is_same {d : D} {n : Nat} (h : D.tq n d) (hn : n ≤ 7 := by decide) : F__law_is [d, d] m = .ok (.val (.bl true)) m := by
  have up : ∀ (k j : Nat) (d : D), D.tq k d → D.tq (k + j) d := by
    intro k j
    induction j with
    | zero => intro d h; exact h
    | succ j ih =>
      have step : ∀ (k : Nat) (d : D), D.tq k d → D.tq (k + 1) d := by
        intro k
        induction k with
        | zero => intro d h; cases d <;> first | exact h | exact False.elim h
        | succ k ih =>
          intro d h
          cases d with
          | tup l => exact ⟨h.1, fun x hx => ih x (h.2 x hx)⟩
          | _ => exact h
      intro d h
      exact step _ d (ih d h)
  have := p_is (m := m) 7 d (by have := up n (7 - n) d h; rwa [show n + (7 - n) = 7 by omega] at this)
  exact this
theorem tt (l : List Nat) : (l.map fun _ => true).all id = true := by
  induction l with
  | nil => rfl
  | cons d l ih => simp
theorem blsD_true' (l : List Nat) : blsD (l.map fun _ => D.bl true) = some (l.map fun _ => true) := by
  induction l with
  | nil => rfl
  | cons d l ih => simp [blsD, ih]
end W
namespace W
open PySem PySem.Spec PyProof.Rows L2 DL
variable {m : List Ob}
theorem nodup_len : ∀ {l1 l2 : List Nat}, l1.Nodup → (∀ x ∈ l1, x ∈ l2) → l1.length ≤ l2.length
  | [], l2, _, _ => Nat.zero_le _
  | a :: l1, l2, h, hs => by
    have ha := hs a (List.mem_cons_self ..)
    rw [List.nodup_cons] at h
    have := nodup_len (l1 := l1) (l2 := l2.erase a) h.2 fun x hx => (List.mem_erase_of_ne (fun e => h.1 (by rw [← e]; exact hx))).mpr (hs x (List.mem_cons_of_mem _ hx))
    rw [List.length_erase_of_mem ha] at this
    have : 0 < l2.length := List.length_pos_of_mem ha
    rw [List.length_cons]
    omega
/-- what is left of q without b's primes -/
structure Lft (q b l k : Nat) : Prop where
  co : Nat.gcd l b = 1
  dv : l ∣ q
  up : q ∣ l * b ^ k
  po : 0 < l
  sz : l * 2 ^ k ≤ q
theorem Lft.uniq {q b l l' k k' : Nat} (x : Lft q b l k) (y : Lft q b l' k') : l = l' := by
  have f : ∀ {l l' k k' : Nat}, Lft q b l k → Lft q b l' k' → l ∣ l' := fun x y => by
    have h := Nat.dvd_trans x.dv y.up
    exact (Nat.Coprime.pow_right _ x.co : Nat.Coprime _ _).dvd_of_dvd_mul_right h
  exact Nat.dvd_antisymm (f x y) (f y x)
/-- a loop that takes out what it shares with b -/
theorem left_loop {c : M Bool} {b' : M Fl} (b : Nat) (st : Nat → Sta) (h0 : ∀ l, Nat.gcd l b = 1 → c (st l) = .ok false (st l)) (h1 : ∀ l, 0 < l → l < 18446744073709551616 → 1 < Nat.gcd l b → c (st l) = .ok true (st l) ∧ b' (st l) = .ok .nx (st (l / Nat.gcd l b))) :
    ∀ (n l : Nat), l ≤ n → 0 < l → l < 18446744073709551616 → ∃ l' k, sWh c b' (st l) = .ok .nx (st l') ∧ Lft l b l' k := by
  intro n
  induction n with
  | zero => intro l h h0; omega
  | succ n ih =>
    intro l h hl0 hl
    have hg : 0 < Nat.gcd l b := Nat.gcd_pos_of_pos_left _ hl0
    by_cases e1 : Nat.gcd l b = 1
    · exact ⟨l, 0, sWh_false (h0 l e1), e1, Nat.dvd_refl _, by simp, hl0, by simp⟩
    · have hg2 : 1 < Nat.gcd l b := by omega
      have hd : Nat.gcd l b ∣ l := Nat.gcd_dvd_left _ _
      have hlt : l / Nat.gcd l b < l := Nat.div_lt_self hl0 hg2
      have hpos : 0 < l / Nat.gcd l b := Nat.div_pos (Nat.le_of_dvd hl0 hd) hg
      obtain ⟨l', k, e, q1, q2, q3, q4, q5⟩ := ih (l / Nat.gcd l b) (by omega) hpos (by omega)
      obtain ⟨a1, a2⟩ := h1 l hl0 hl hg2
      have a : l = l / Nat.gcd l b * Nat.gcd l b := (Nat.div_mul_cancel hd).symm
      refine ⟨l', k + 1, (sWh_true a1 a2).trans e, q1, Nat.dvd_trans q2 (Nat.div_dvd_of_dvd hd), ?_, q4, ?_⟩
      · have b1 : l / Nat.gcd l b * Nat.gcd l b ∣ l' * b ^ k * b := Nat.mul_dvd_mul q3 (Nat.gcd_dvd_right _ _)
        rw [← a] at b1
        rw [Nat.pow_succ, ← Nat.mul_assoc]
        exact b1
      · have b1 : l' * 2 ^ k * 2 ≤ l / Nat.gcd l b * Nat.gcd l b := Nat.mul_le_mul q5 hg2
        rw [← a] at b1
        rw [Nat.pow_succ, ← Nat.mul_assoc]
        exact b1
theorem p_apart {q b : Nat} (hb : 0 < b) (hq : 0 < q) (hq2 : q < 18446744073709551616) : ∃ l k : Nat, F_apart [.int q, .int b] m = .ok (.val (.int l)) m ∧ Lft q b l k := by
  obtain ⟨l', k, e, x⟩ := left_loop (c := wc1_apart) (b' := wb1_apart) b (fun l => ⟨[.val (.int l), .val (.int b), .val (.int (Nat.gcd l b))], m⟩) (fun l h => by simp [wc1_apart, h]) (fun l h0 h1 h2 => by
    have hg3 : (1 : Int) < (Nat.gcd l b : Nat) := by omega
    have dk : divOk (Nat.gcd l b : Nat) = true := divOk_s (by omega) (by have := Nat.le_of_dvd h0 (Nat.gcd_dvd_left l b); omega)
    constructor
    · simp [wc1_apart, hg3]
    · have := p_divisor (m := m) ((l / Nat.gcd l b : Nat) : Int) b
      have e2 : Int.gcd ((l / Nat.gcd l b : Nat) : Int) b = Nat.gcd (l / Nat.gcd l b) b := rfl
      rw [e2] at this
      simp only [Int.natCast_ediv] at this
      simp [wb1_apart, dk, fdiv_nat, this]) q q (Nat.le_refl _) hq hq2
  refine ⟨l', k, ?_, x⟩
  have := p_divisor (m := m) (q : Int) b
  have e2 : Int.gcd (q : Int) b = Nat.gcd q b := rfl
  rw [e2] at this
  simp [F_apart, b_apart, bodyF, this]
  rw [e]
  simp
theorem p_lstay {q b : Nat} (hb : 0 < b) (hq : 0 < q) (hq2 : q < 18446744073709551616) : ∃ l k : Nat, F__law_stay [.int q, .int b] m = .ok (.val (.int l)) m ∧ Lft q b l k := by
  obtain ⟨l', k, e, x⟩ := left_loop (c := wc1__law_stay) (b' := wb1__law_stay) b (fun l => ⟨[.val (.int q), .val (.int b), .val (.int l), .val (.int (Nat.gcd l b))], m⟩) (fun l h => by simp [wc1__law_stay, h]) (fun l h0 h1 h2 => by
    have hg3 : (1 : Int) < (Nat.gcd l b : Nat) := by omega
    have dk : divOk (Nat.gcd l b : Nat) = true := divOk_s (by omega) (by have := Nat.le_of_dvd h0 (Nat.gcd_dvd_left l b); omega)
    constructor
    · simp [wc1__law_stay, hg3]
    · have := p_ldiv (m := m) (l / Nat.gcd l b) b
      simp only [Int.natCast_ediv] at this
      simp [wb1__law_stay, dk, fdiv_nat, this]) q q (Nat.le_refl _) hq hq2
  refine ⟨l', k, ?_, x⟩
  simp [F__law_stay, b__law_stay, bodyF, p_ldiv]
  rw [e]
  simp
/-! all digits -/
theorem dig_snoc {b q : Nat} : ∀ {n r : Nat}, dig b q (n + 1) r = dig b q n r ++ [rst b q n r * b / q]
  | 0, r => rfl
  | n + 1, r => by
    show r * b / q :: dig b q (n + 1) (r * b % q) = _
    rw [dig_snoc]
    rfl
section
variable {p q b : Nat}
def ast (m : List Ob) (p q b k : Nat) : Sta := ⟨[.val (fr p q), .val (.int b), .val (.int (Rr p q b k)), .own (.lst (enN (dig b q k (p % q))))], m⟩
theorem dig_all {c : M Bool} {b' : M Fl} (h0 : ∀ k, Rr p q b k = 0 → c (ast m p q b k) = .ok false (ast m p q b k)) (h1 : ∀ k, k < 1000 → 0 < Rr p q b k → c (ast m p q b k) = .ok true (ast m p q b k) ∧ b' (ast m p q b k) = .ok .nx (ast m p q b (k + 1)))
    {T : Nat} (hT : T < 1000) (e : Rr p q b T = 0) (hm : ∀ j, j < T → Rr p q b j ≠ 0) : ∀ (n k : Nat), k + n = T → sWh c b' (ast m p q b k) = .ok .nx (ast m p q b T) := by
  intro n
  induction n with
  | zero =>
    intro k hk
    obtain rfl : k = T := by omega
    exact sWh_false (h0 k e)
  | succ n ih =>
    intro k hk
    obtain ⟨a1, a2⟩ := h1 k (by omega) (Nat.pos_of_ne_zero (hm k (by omega)))
    exact (sWh_true a1 a2).trans (ih (k + 1) (by omega))
theorem p_all_digits {T : Nat} (hq : 0 < q) (hq2 : q < 5000) (hb : b < 1000) (hT : T < 1000) (e : Rr p q b T = 0) (hm : ∀ j, j < T → Rr p q b j ≠ 0) : F_all_digits [fr p q, .int b] m = .ok (.val (.tup (enN (dig b q T (p % q))))) m := by
  have q0 : q ≠ 0 := by omega
  have hdk : divOk q = true := divOk_s (by omega) (by omega)
  have L := dig_all (m := m) (c := wc1_all_digits) (b' := wb1_all_digits) (p := p) (q := q) (b := b) (fun k hk => by simp [wc1_all_digits, ast, hk]) (fun k hk hp => by
    constructor
    · simp [wc1_all_digits, ast, hp]
    · have mk : mulOk (Rr p q b k) b = true := mulOk_r (by omega)
      have f1 : ((Rr p q b k : Int) * b).fdiv q = ((Rr p q b k * b / q : Nat) : Int) := by rw [← Int.natCast_mul, fdiv_nat]
      have f2 : ((Rr p q b k : Int) * b).fmod q = ((Rr p q b (k + 1) : Nat) : Int) := by rw [← Int.natCast_mul, fmod_nat, R_succ]
      have hl : (enN (dig b q k (p % q))).length < 16777216 := by simp only [enN, List.length_map, dig_len]; omega
      have e2 : enN (dig b q (k + 1) (p % q)) = enN (dig b q k (p % q)) ++ [.int (Rr p q b k * b / q : Nat)] := by rw [dig_snoc]; simp [enN, Rr]
      simp [wb1_all_digits, ast, fr, mk, hdk, q0, hl, f1, f2, e2]) hT e hm T 0 (by omega)
  have e3 : ast m p q b 0 = ⟨[.val (.tup [.int p, .int q]), .val (.int b), .val (.int ((p : Int) % q)), .own (.lst [])], m⟩ := rfl
  rw [e3] at L
  simp only [fr]
  simp [F_all_digits, b_all_digits, bodyF, q0, fmod_nat]
  rw [L]
  simp [ast]
theorem p_lall {T : Nat} (hq : 0 < q) (hq2 : q < 5000) (hb : b < 1000) (hT : T < 1000) (e : Rr p q b T = 0) (hm : ∀ j, j < T → Rr p q b j ≠ 0) : F__law_all_digits [fr p q, .int b] m = .ok (.val (.tup (enN (dig b q T (p % q))))) m := by
  have q0 : q ≠ 0 := by omega
  have hdk : divOk q = true := divOk_s (by omega) (by omega)
  have L := dig_all (m := m) (c := wc1__law_all_digits) (b' := wb1__law_all_digits) (p := p) (q := q) (b := b) (fun k hk => by simp [wc1__law_all_digits, ast, hk]) (fun k hk hp => by
    constructor
    · simp [wc1__law_all_digits, ast, hp]
    · have mk : mulOk (Rr p q b k) b = true := mulOk_r (by omega)
      have f1 : ((Rr p q b k : Int) * b).fdiv q = ((Rr p q b k * b / q : Nat) : Int) := by rw [← Int.natCast_mul, fdiv_nat]
      have f2 : ((Rr p q b k : Int) * b).fmod q = ((Rr p q b (k + 1) : Nat) : Int) := by rw [← Int.natCast_mul, fmod_nat, R_succ]
      have hl : (enN (dig b q k (p % q))).length < 16777216 := by simp only [enN, List.length_map, dig_len]; omega
      have e2 : enN (dig b q (k + 1) (p % q)) = enN (dig b q k (p % q)) ++ [.int (Rr p q b k * b / q : Nat)] := by rw [dig_snoc]; simp [enN, Rr]
      simp [wb1__law_all_digits, ast, fr, mk, hdk, q0, hl, f1, f2, e2]) hT e hm T 0 (by omega)
  have e3 : ast m p q b 0 = ⟨[.val (.tup [.int p, .int q]), .val (.int b), .val (.int ((p : Int) % q)), .own (.lst [])], m⟩ := rfl
  rw [e3] at L
  simp only [fr]
  simp [F__law_all_digits, b__law_all_digits, bodyF, q0, fmod_nat]
  rw [L]
  simp [ast]
theorem ends_T {l k : Nat} (hq : 0 < q) (hq2 : q < 4096) (x : Lft q b l k) (h1 : l = 1) : ∃ T, T ≤ 11 ∧ Rr p q b T = 0 ∧ ∀ j, j < T → Rr p q b j ≠ 0 := by
  subst h1
  have h := x.up
  have hs := x.sz
  rw [Nat.one_mul] at h hs
  obtain ⟨T, t0, t1, t2⟩ := least (P := fun k => Rr p q b k = 0) (R_end (p := p) hq h)
  refine ⟨T, ?_, t1, t2⟩
  have : k < 12 := by
    refine Nat.lt_of_not_le fun h12 => ?_
    have := Nat.pow_le_pow_right (n := 2) (by decide) h12
    omega
  omega
end
/-! ends -/
inductive Told (p q b : Nat) : D → Prop
  | ends {T : Nat} : T ≤ 11 → Rr p q b T = 0 → (∀ j, j < T → Rr p q b j ≠ 0) → Told p q b (.tup [.str "ends", .tup (enN (dig b q T (p % q)))])
  | stays {l k : Nat} : Lft q b l k → 1 < l → Told p q b (.tup [.str "stays", .int l])
theorem p_ends {p q b : Nat} (hq : 0 < q) (hq2 : q < 4096) (hc : Nat.Coprime p q) (h : 2 ≤ b) (h2 : b ≤ 60) : ∃ d l k, F_ends [fr p q, .int b] m = .ok (.val d) m ∧ Told p q b d ∧ Lft q b l k ∧ (l = 1 → ∃ T, T ≤ 11 ∧ Rr p q b T = 0 ∧ (∀ j, j < T → Rr p q b j ≠ 0) ∧ d = .tup [.str "ends", .tup (enN (dig b q T (p % q)))]) ∧ (1 < l → d = .tup [.str "stays", .int l]) := by
  have e1 := p_check_part (m := m) hq hc h h2
  obtain ⟨l, k, e2, x⟩ := p_apart (m := m) (q := q) (b := b) (by omega) hq (by omega)
  by_cases hl : l = 1
  · obtain ⟨T, t0, t1, t2⟩ := ends_T (p := p) hq hq2 x hl
    have e3 := p_all_digits (m := m) hq (by omega) (by omega) (by omega) t1 t2
    refine ⟨_, l, k, ?_, .ends t0 t1 t2, x, fun _ => ⟨T, t0, t1, t2, rfl⟩, fun z => by omega⟩
    subst hl
    simp only [fr] at *
    simp [F_ends, b_ends, bodyF, e1, e2, e3]
  · have hl2 : 1 < l := by have := x.po; omega
    refine ⟨_, l, k, ?_, .stays x hl2, x, fun z => absurd z hl, fun _ => rfl⟩
    simp only [fr] at *
    have hl' : ¬ (l : Int) = 1 := by omega
    simp [F_ends, b_ends, bodyF, e1, e2, hl']
end W
namespace W
open PySem PySem.Spec PyProof.Rows L2 DL
variable {m : List Ob}
theorem p_is_tup (l : List D) (a b : Int) : F_is_tuple [.tup l, .int a, .int b] m = .ok (.val (.bl (decide (a ≤ (l.length : Int)) && decide ((l.length : Int) ≤ b)))) m := by
  by_cases h : a ≤ (l.length : Int) <;> simp [F_is_tuple, b_is_tuple, bodyF, fIsi, tyD, knownT, isT, h]
theorem p_no_tup {d : D} (h : tyD d ∈ ["NoneType", "bool", "int", "str", "list", "dict"]) (a b : Int) : F_is_tuple [d, .int a, .int b] m = .ok (.val (.bl false)) m := by
  cases d <;> simp [tyD] at h <;> simp [F_is_tuple, b_is_tuple, bodyF, fIsi, tyD, knownT, isT]
theorem p_no_int {d : D} (h : tyD d ∈ ["NoneType", "bool", "str", "list", "dict", "tuple"]) : F_is_integer [d] m = .ok (.val (.bl false)) m := by
  cases d <;> simp [tyD] at h <;> simp [F_is_integer, b_is_integer, bodyF, fIsi, tyD, knownT, isT]
abbrev sS : Str := "stays"
abbrev sE : Str := "ends"
theorem okL (s : String) : okStr (Str.ofString s) := okStr_of s
section
variable {p q b : Nat}
structure Okk (p q b : Nat) : Prop where
  q0 : 0 < q
  q1 : q < 4096
  p1 : p < 100000
  co : Nat.Coprime p q
  b0 : 2 ≤ b
  b1 : b ≤ 60
theorem ie_no (X : Okk p q b) {d : D} (h : F_is_tuple [d, .int 2, .int 2] m = .ok (.val (.bl false)) m) : F_is_ends [fr p q, .int b, d] m = .ok (.val (.bl false)) m := by
  have e1 := p_check_part (m := m) X.q0 X.co X.b0 X.b1
  simp [F_is_ends, b_is_ends, bodyF, e1, h]
theorem ie_str (X : Okk p q b) {s : Str} {v : D} (hs : okStr s) (h1 : (s == sS) = false) (h2 : (s == sE) = false) : F_is_ends [fr p q, .int b, .tup [.str s, v]] m = .ok (.val (.bl false)) m := by
  have e1 := p_check_part (m := m) X.q0 X.co X.b0 X.b1
  have e2 := p_is_tuple2 (m := m) (.str s) v
  have e3 : fEq m (.str s) (.str sS) = _ := fEq_str hs (okL _)
  have e4 : fNe m (.str s) (.str sE) = _ := fNe_str hs (okL _)
  rw [h1] at e3
  rw [h2] at e4
  simp [F_is_ends, b_is_ends, bodyF, e1, e2, e3, e4, fIsi, tyD, knownT, isT]
theorem ie_stays_no (X : Okk p q b) {v : D} (h : F_is_integer [v] m = .ok (.val (.bl false)) m) : F_is_ends [fr p q, .int b, .tup [.str sS, v]] m = .ok (.val (.bl false)) m := by
  have e1 := p_check_part (m := m) X.q0 X.co X.b0 X.b1
  have e2 := p_is_tuple2 (m := m) (.str sS) v
  have e3 : fEq m (.str sS) (.str sS) = _ := fEq_str (okL _) (okL _)
  rw [beq_self_eq_true] at e3
  simp [F_is_ends, b_is_ends, bodyF, e1, e2, e3, h, fIsi, tyD, knownT, isT]
theorem ie_stays (X : Okk p q b) (i : Int) : F_is_ends [fr p q, .int b, .tup [.str sS, .int i]] m = .ok (.val (.bl (decide (2 ≤ i) && (decide ((q : Int).fmod i = 0) && decide (Int.gcd i b = 1))))) m := by
  have e1 := p_check_part (m := m) X.q0 X.co X.b0 X.b1
  have e2 := p_is_tuple2 (m := m) (.str sS) (.int i)
  have e3 : fEq m (.str sS) (.str sS) = _ := fEq_str (okL _) (okL _)
  rw [beq_self_eq_true] at e3
  have e4 := p_divisor (m := m) i b
  by_cases h : i < 2
  · have h' : ¬ 2 ≤ i := by omega
    simp only [fr] at *
    simp [F_is_ends, b_is_ends, bodyF, e1, e2, e3, p_is_integer, h, h', fIsi, tyD, knownT, isT]
  · have h' : 2 ≤ i := by omega
    have i0 : i ≠ 0 := by omega
    simp only [fr] at *
    by_cases hm : (q : Int).fmod i = 0
    · have hc : ((Int.gcd i b : Int) = 1) = (Int.gcd i b = 1) := by apply propext; omega
      simp [F_is_ends, b_is_ends, bodyF, e1, e2, e3, p_is_integer, h, h', i0, hm, e4, hc, fIsi, tyD, knownT, isT]
    · simp [F_is_ends, b_is_ends, bodyF, e1, e2, e3, p_is_integer, h, h', i0, hm, e4, fIsi, tyD, knownT, isT]
theorem ie_ends_no (X : Okk p q b) {v : D} (h : F_is_tuple [v, .int 0, .int 2000] m = .ok (.val (.bl false)) m) : F_is_ends [fr p q, .int b, .tup [.str sE, v]] m = .ok (.val (.bl false)) m := by
  have e1 := p_check_part (m := m) X.q0 X.co X.b0 X.b1
  have e2 := p_is_tuple2 (m := m) (.str sE) v
  have e3 : fEq m (.str sE) (.str sS) = _ := fEq_str (okL _) (okL _)
  have e4 : fNe m (.str sE) (.str sE) = _ := fNe_str (okL _) (okL _)
  rw [show (sE == sS) = false by decide] at e3
  rw [beq_self_eq_true] at e4
  simp [F_is_ends, b_is_ends, bodyF, e1, e2, e3, e4, h, fIsi, tyD, knownT, isT]
theorem ie_ends_apart (X : Okk p q b) {l k : Nat} (x : Lft q b l k) (hl : 1 < l) (v : List D) (hv : v.length ≤ 2000) : F_is_ends [fr p q, .int b, .tup [.str sE, .tup v]] m = .ok (.val (.bl false)) m := by
  have e1 := p_check_part (m := m) X.q0 X.co X.b0 X.b1
  have e2 := p_is_tuple2 (m := m) (.str sE) (.tup v)
  have e3 : fEq m (.str sE) (.str sS) = _ := fEq_str (okL _) (okL _)
  have e4 : fNe m (.str sE) (.str sE) = _ := fNe_str (okL _) (okL _)
  rw [show (sE == sS) = false by decide] at e3
  rw [beq_self_eq_true] at e4
  have e5 := p_is_tup (m := m) v 0 2000
  rw [decide_eq_true (by omega : (0 : Int) ≤ v.length), decide_eq_true (by omega : (v.length : Int) ≤ 2000)] at e5
  obtain ⟨l', k', e6, x'⟩ := p_apart (m := m) (q := q) (b := b) (by have := X.b0; omega) X.q0 (by have := X.q1; omega)
  have := x.uniq x'
  subst this
  have hl' : (1 : Int) < l := by omega
  simp only [fr] at *
  simp [F_is_ends, b_is_ends, bodyF, e1, e2, e3, e4, e5, e6, hl, hl', fIsi, tyD, knownT, isT]
theorem ie_ends (X : Okk p q b) {k T : Nat} (x : Lft q b 1 k) (hT : T ≤ 11) (t1 : Rr p q b T = 0) (t2 : ∀ j, j < T → Rr p q b j ≠ 0) (v : List D) (hv : v.length ≤ 2000) (hq : D.q 1 (.tup v) = true) (g : D → Bool) (hg : ∀ d ∈ v, F_is_integer [d] m = .ok (.val (.bl (g d))) m) :
    F_is_ends [fr p q, .int b, .tup [.str sE, .tup v]] m = .ok (.val (.bl (v.all g && deq (.tup v) (.tup (enN (dig b q T (p % q))))))) m := by
  have e1 := p_check_part (m := m) X.q0 X.co X.b0 X.b1
  have e2 := p_is_tuple2 (m := m) (.str sE) (.tup v)
  have e3 : fEq m (.str sE) (.str sS) = _ := fEq_str (okL _) (okL _)
  have e4 : fNe m (.str sE) (.str sE) = _ := fNe_str (okL _) (okL _)
  rw [show (sE == sS) = false by decide] at e3
  rw [beq_self_eq_true] at e4
  have e5 := p_is_tup (m := m) v 0 2000
  rw [decide_eq_true (by omega : (0 : Int) ≤ v.length), decide_eq_true (by omega : (v.length : Int) ≤ 2000)] at e5
  obtain ⟨l', k', e6, x'⟩ := p_apart (m := m) (q := q) (b := b) (by have := X.b0; omega) X.q0 (by have := X.q1; omega)
  have := x.uniq x'
  subst this
  have e7 := p_all_digits (m := m) X.q0 (by have := X.q1; omega) (by have := X.b1; omega) (by omega) t1 t2
  have hq2 : D.q 1 (.tup (enN (dig b q T (p % q)))) = true := by
    unfold enN
    simp only [D.q, List.all_map]
    exact List.all_eq_true.mpr fun x _ => rfl
  have e8 := fEq_q (m := m) hq hq2
  have e9 : mLc (iSeq (mOp2L fIx 2 (mC (.int 1)))) [3] (gV 3) mYes ce1_is_ends ⟨[.val (fr p q), .val (.int b), .val (.tup [.str sE, .tup v]), .no], m⟩ = _ :=
    mLc_all (ds := v) (S1 := ⟨[.val (fr p q), .val (.int b), .val (.tup [.str sE, .tup v]), .no], m⟩) id (fun d => .bl (g d)) (by simp) (by simp; omega) (fun d hd => by
      have := hg d hd
      simp [ce1_is_ends, this, and_assoc])
  have e10 : blsD (v.map fun d => .bl (g d)) = some (v.map g) := by
    clear e9 hg e8 hq e5 e2 hv
    induction v with
    | nil => rfl
    | cons d v ih => simp [blsD, ih]
  have e11 : (v.map g).all id = v.all g := by simp [List.all_map, Function.comp_def]
  simp only [fr] at *
  by_cases ha : v.all g = true
  · simp [F_is_ends, b_is_ends, bodyF, e1, e2, e3, e4, e5, e6, e7, e8, e9, e10, fIsi, tyD, knownT, isT, e11, ha]
  · simp [F_is_ends, b_is_ends, bodyF, e1, e2, e3, e4, e5, e6, e7, e8, e9, e10, fIsi, tyD, knownT, isT, e11, ha]
end
end W
namespace W
open PySem PySem.Spec PyProof.Rows L2 DL
variable {m : List Ob}
def dp : Nat → D
  | 0 => .str "-"
  | n + 1 => if n < 5 then .tup [dp n] else .lst [dp n]
theorem p_deep : F__law_deep [.int 12] m = .ok (.val (dp 12)) m := by
  have hr : rgD 0 12 = [.int 0, .int 1, .int 2, .int 3, .int 4, .int 5, .int 6, .int 7, .int 8, .int 9, .int 10, .int 11] := rfl
  simp [F__law_deep, b__law_deep, bodyF, hr, sForL, fb1__law_deep, dp]
theorem rp_str {n : Nat} {s : String} (h : okStr (reprText (Str.ofString s))) : D.rp n (.str (Str.ofString s)) := by
  unfold D.rp
  exact ⟨okL _, h⟩
theorem rp_dp : D.rp 14 (dp 12) := by
  have h0 : okStr (reprText (Str.ofString "-")) := by unfold okStr; decide +kernel
  simp [dp, D.rp, okL, h0]
theorem bulk_dp : (dp 12).py.bulk ≤ 1048576 := by
  simp [dp, D.py, D.pyL, PyData.bulk, PyData.bulkAll]
  decide
def Good (m : List Ob) (p q b : Nat) (d : D) : Prop := F_is_ends [fr p q, .int b, d] m = .ok (.val (.bl false)) m ∧ ∃ s, fReprE m d = some (.val (.str s)) ∧ okStr s
theorem bulk_ints (l : List Nat) : PyData.bulkAll (D.pyL (enN l)) = l.length := by
  induction l with
  | nil => rfl
  | cons d l ih =>
    show PyData.bulkAll (D.pyL (.int d :: enN l)) = _
    simp only [D.pyL, D.py, PyData.bulkAll, PyData.bulk, ih, List.length_cons]
    omega
theorem bulk_app (l l' : List D) : PyData.bulkAll (D.pyL (l ++ l')) = PyData.bulkAll (D.pyL l) + PyData.bulkAll (D.pyL l') := by
  induction l with
  | nil => simp [D.pyL, PyData.bulkAll]
  | cons d l ih => simp only [List.cons_append, D.pyL, PyData.bulkAll, ih]; omega
theorem rp_ints {n : Nat} {l : List Nat} (h : ∀ d ∈ l, d < 10 ^ 12) : ∀ x ∈ enN l, D.rp n x := by
  intro x hx
  obtain ⟨d, hd, rfl⟩ := List.mem_map.mp hx
  have := h d hd
  unfold D.rp
  simpa using this
section
variable {p q b : Nat}
theorem good_of (n : Nat) {d : D} (h : F_is_ends [fr p q, .int b, d] m = .ok (.val (.bl false)) m) (hr : D.rp n d) (hb : d.py.bulk ≤ 1048576) (hn : n ≤ 60 := by decide) : Good m p q b d := ⟨h, rp_repr hr hb hn⟩
theorem right_loop : ∀ (ds : List D), (∀ d ∈ ds, Good m p q b d) → ∀ (s0 s3 s4 s5 s6 s7 s8 s9 s10 : Sl), ∃ s6' s7', sForL (gV 6) fb1__law_is_right ds ⟨[s0, .val (fr p q), .val (.int b), s3, s4, s5, s6, s7, s8, s9, s10], m⟩ = .ok .nx ⟨[s0, .val (fr p q), .val (.int b), s3, s4, s5, s6', s7', s8, s9, s10], m⟩ := by
  intro ds
  induction ds with
  | nil => intro _ s0 s3 s4 s5 s6 s7 s8 s9 s10; exact ⟨s6, s7, rfl⟩
  | cons d ds ih =>
    intro hd s0 s3 s4 s5 s6 s7 s8 s9 s10
    obtain ⟨h1, s, h2, h3⟩ := hd d (List.mem_cons_self ..)
    obtain ⟨s6', s7', e⟩ := ih (fun x hx => hd x (List.mem_cons_of_mem _ hx)) s0 s3 s4 s5 (.val d) (.val (.str s)) s8 s9 s10
    refine ⟨s6', s7', ?_⟩
    have h4 := fNe_str (m := m) h3 h3
    rw [beq_self_eq_true] at h4
    rw [sForL_cons (S1 := ⟨[s0, .val (fr p q), .val (.int b), s3, s4, s5, .val d, s7, s8, s9, s10], m⟩) (S2 := ⟨[s0, .val (fr p q), .val (.int b), s3, s4, s5, .val d, .val (.str s), s8, s9, s10], m⟩), e]
    · simp
    · simp [fb1__law_is_right, h1, h2, h4]
/-- the wrong things of both kinds -/
def wr0 (p q b : Nat) (w : Str) (v : D) : List D := [.non, .tup [], .int 0, .dic [], .str w, .lst [.str w, v], .tup [.str w, v, .int 0], .tup [.str w], .tup [.str "Ends", v], .tup [.str "stays", .int 1], .tup [.str "stays", .int 0], .tup [.str "stays", .int (q + 1)],
  .tup [.str "stays", .bl true], .tup [.str "stays", .non], .tup [.str "ends", .non], .tup [.str "ends", .lst [.int 0]], .tup [.str "ends", .tup [.int b]], .tup [.str "ends", .tup [.bl true]], dp 12]
def wrE (q : Nat) (v : List D) : List D := [.tup [.str "ends", .tup (v ++ [.int 1])], .tup [.str "ends", .tup (.int 0 :: (v ++ [.int 1]))], .tup [.str "stays", .int q]]
theorem p_wrong_ends (v : List D) (hv : v.length ≤ 1000) (s0 : D) : F__law_wrong [s0, fr p q, .int b, .tup [.str "ends", .tup v]] m = .ok (.val (.lst (wr0 p q b "ends" (.tup v) ++ wrE q v))) m := by
  have h1 : fEq m (.str sE) (.str sE) = _ := fEq_str (okL _) (okL _)
  rw [beq_self_eq_true] at h1
  have h2 : v.length + 1 ≤ 16777216 := by omega
  have h3 : 1 + v.length ≤ 16777216 := by omega
  have h4 : v.length + 1 + 1 ≤ 16777216 := by omega
  have h5 : v.length ≤ 16777215 := by omega
  have h6 : v.length ≤ 16777214 := by omega
  simp [F__law_wrong, b__law_wrong, bodyF, fr, p_deep, h1, h2, h3, h4, h5, h6, wr0, wrE]
def wrS (l : Int) (v : List D) : List D := [.tup [.str "ends", .tup v], .tup [.str "ends", .tup []], .tup [.str "stays", .int (-l)]]
theorem p_wrong_stays (X : Pq p q b 6) (l : Int) (s0 : D) : F__law_wrong [s0, fr p q, .int b, .tup [.str "stays", .int l]] m = .ok (.val (.lst (wr0 p q b "stays" (.int l) ++ wrS l (enN (dig b q 6 (p % q)))))) m := by
  have h1 : fEq m (.str sS) (.str sE) = _ := fEq_str (okL _) (okL _)
  rw [show (sS == sE) = false by decide] at h1
  have h2 := p_written (m := m) X
  simp only [fr, wr] at *
  simp at h2
  simp [F__law_wrong, b__law_wrong, bodyF, p_deep, h1, h2, wr0, wrS]
theorem okR (s : String) (h : (PyData.canLay0 (.str (reprText (Str.ofString s)))) = true := by decide +kernel) : okStr (reprText (Str.ofString s)) := h
/-- those of both kinds are wrong -/
theorem good0 (X : Okk p q b) {w : Str} {v : D} {l k : Nat} (x : Lft q b l k) (hl : l = 1 → ∃ T, T ≤ 11 ∧ Rr p q b T = 0 ∧ (∀ j, j < T → Rr p q b j ≠ 0)) (hw : okStr w ∧ okStr (reprText w)) (hwl : w.cps.size ≤ 100) (hv : D.rp 40 v) (hb : v.py.bulk ≤ 100000) : ∀ d ∈ wr0 p q b w v, Good m p q b d := by
  have q1 := X.q1
  have b1 := X.b1
  have rS : okStr (reprText (Str.ofString "stays")) := okR _
  have rE : okStr (reprText (Str.ofString "ends")) := okR _
  have gi : ∀ (i : Int), i < 2 → -1000000 < i → Good m p q b (.tup [.str sS, .int i]) := fun i h h' => by
    refine good_of 2 ?_ ?_ ?_
    · rw [ie_stays X, decide_eq_false (by omega : ¬ 2 ≤ i)]; rfl
    · simp [D.rp, okL, rS, rE]; omega
    · simp [D.py, D.pyL, PyData.bulk, PyData.bulkAll]; decide
  have ends_int : ∀ (e : D), (∀ n, D.rp n e) → e.py.bulk = 0 → D.q 0 e = true → (∃ g, F_is_integer [e] m = .ok (.val (.bl g)) m ∧ (g = true → ∃ i : Int, e = .int i ∧ i = b)) → Good m p q b (.tup [.str sE, .tup [e]]) := by
    intro e he hbu hq hg
    refine good_of 3 ?_ ?_ ?_
    · by_cases h1 : l = 1
      · obtain ⟨T, t0, t1, t2⟩ := hl h1
        subst h1
        obtain ⟨g, g1, g2⟩ := hg
        rw [ie_ends X x t0 t1 t2 [e] (by simp) (by unfold D.q; simp [hq]) (fun _ => g) (fun d hd => by rw [List.mem_singleton.mp hd]; exact g1)]
        congr 3
        by_cases hgt : g = true
        · obtain ⟨i, rfl, rfl⟩ := g2 hgt
          have : deq (.tup [.int (b : Int)]) (.tup (enN (dig b q T (p % q)))) = false := by
            cases hz : deq (.tup [.int (b : Int)]) (.tup (enN (dig b q T (p % q)))) with
            | false => rfl
            | true =>
              exfalso
              have := nb_deq (n := 1) (by unfold D.nb; simp [D.nb]) (by unfold D.nb enN; rw [List.all_map]; exact List.all_eq_true.mpr fun x _ => rfl) hz
              simp only [D.tup.injEq] at this
              have hm : D.int (b : Int) ∈ enN (dig b q T (p % q)) := by rw [← this]; exact List.mem_singleton.mpr rfl
              obtain ⟨y, hy, e⟩ := List.mem_map.mp hm
              have h2 := dig_lt (by have := X.b0; omega) X.q0 (Nat.mod_lt p X.q0) y hy
              have : (y : Int) = b := by simpa using e
              omega
          rw [this, Bool.and_false]
        · have : g = false := by simpa using hgt
          subst this
          simp
      · exact ie_ends_apart X x (by have := x.po; omega) [e] (by simp)
    · have h2 := he 1
      simp only [D.rp, List.mem_cons, List.not_mem_nil, or_false, forall_eq_or_imp, forall_eq]
      exact ⟨⟨okL _, okR _⟩, h2⟩
    · simp [D.py, D.pyL, PyData.bulk, PyData.bulkAll, hbu]; decide
  have two : ∀ (d : D), tyD d ∈ ["NoneType", "bool", "int", "str", "list", "dict"] → F_is_ends [fr p q, .int b, d] m = .ok (.val (.bl false)) m := fun d h => ie_no X (p_no_tup h 2 2)
  have tupn : ∀ l : List D, l.length ≠ 2 → F_is_ends [fr p q, .int b, .tup l] m = .ok (.val (.bl false)) m := fun l h => ie_no X (by
    rw [p_is_tup]
    congr 3
    by_cases h2 : (2 : Int) ≤ l.length
    · rw [decide_eq_false (by omega : ¬ (l.length : Int) ≤ 2), Bool.and_false]
    · rw [decide_eq_false h2, Bool.false_and])
  intro d hd
  unfold wr0 at hd
  simp only [List.mem_cons, List.not_mem_nil, or_false] at hd
  rcases hd with rfl | rfl | rfl | rfl | rfl | rfl | rfl | rfl | rfl | rfl | rfl | rfl | rfl | rfl | rfl | rfl | rfl | rfl | rfl
  · exact good_of 1 (two _ (by decide)) (by simp [D.rp]) (by decide)
  · exact good_of 1 (tupn _ (by decide)) (by simp [D.rp]) (by decide)
  · exact good_of 1 (two _ (by decide)) (by simp [D.rp]) (by decide)
  · exact ⟨two _ (by decide), _, fReprE_dic, by unfold okStr; decide +kernel⟩
  · exact good_of 1 (two _ (by simp [tyD])) (by unfold D.rp; exact hw) (by simp only [D.py, PyData.bulk]; omega)
  · refine good_of 41 (two _ (by simp [tyD])) ?_ ?_
    · simp only [D.rp, List.mem_cons, List.not_mem_nil, or_false, forall_eq_or_imp, forall_eq]
      exact ⟨hw, hv⟩
    · simp only [D.py, D.pyL, PyData.bulk, PyData.bulkAll]; omega
  · refine good_of 41 (tupn _ (by simp)) ?_ ?_
    · simp only [D.rp, List.mem_cons, List.not_mem_nil, or_false, forall_eq_or_imp, forall_eq]
      exact ⟨hw, hv, by decide⟩
    · simp only [D.py, D.pyL, PyData.bulk, PyData.bulkAll]; omega
  · refine good_of 41 (tupn _ (by simp)) ?_ ?_
    · simp only [D.rp, List.mem_cons, List.not_mem_nil, or_false, forall_eq_or_imp, forall_eq]
      exact hw
    · simp only [D.py, D.pyL, PyData.bulk, PyData.bulkAll]; omega
  · refine good_of 41 (ie_str X (okL _) (by decide) (by decide)) ?_ ?_
    · simp only [D.rp, List.mem_cons, List.not_mem_nil, or_false, forall_eq_or_imp, forall_eq]
      exact ⟨⟨okL _, okR _⟩, hv⟩
    · have : (Str.ofString "Ends").cps.size = 4 := by decide
      simp only [D.py, D.pyL, PyData.bulk, PyData.bulkAll]; omega
  · exact gi 1 (by decide) (by decide)
  · exact gi 0 (by decide) (by decide)
  · refine good_of 2 ?_ ?_ ?_
    · rw [ie_stays X]
      have : ¬ ((q : Int).fmod (q + 1) = 0) := by
        rw [Int.fmod_eq_emod_of_nonneg _ (by omega), Int.emod_eq_of_lt (by omega) (by omega)]
        have := X.q0
        omega
      rw [decide_eq_false this]
      simp
    · simp [D.rp, okL, rS, rE]; omega
    · simp [D.py, D.pyL, PyData.bulk, PyData.bulkAll]; decide
  · exact good_of 2 (ie_stays_no X (p_no_int (by decide))) (by simp [D.rp, okL, rS, rE]) (by decide)
  · exact good_of 2 (ie_stays_no X (p_no_int (by decide))) (by simp [D.rp, okL, rS, rE]) (by decide)
  · exact good_of 2 (ie_ends_no X (p_no_tup (by decide) 0 2000)) (by simp [D.rp, okL, rS, rE]) (by decide)
  · exact good_of 3 (ie_ends_no X (p_no_tup (by simp [tyD]) 0 2000)) (by simp [D.rp, okL, rS, rE]) (by decide)
  · exact ends_int (.int b) (fun n => by unfold D.rp; simp; omega) rfl rfl ⟨true, p_is_integer _, fun _ => ⟨b, rfl, rfl⟩⟩
  · exact ends_int (.bl true) (fun n => by unfold D.rp; trivial) rfl rfl ⟨false, p_no_int (by decide), fun z => nomatch z⟩
  · exact good_of 14 (two _ (by decide)) rp_dp bulk_dp
end
end W
namespace W
open PySem PySem.Spec PyProof.Rows L2 DL
variable {m : List Ob}
def lf (b : Nat) : Nat → Nat → Nat
  | 0, n => n
  | f + 1, n => if Nat.gcd n b = 1 then n else lf b f (n / Nat.gcd n b)
theorem lf_L {b : Nat} : ∀ (f n : Nat), 0 < n → n ≤ f → ∃ k, Lft n b (lf b f n) k := by
  intro f
  induction f with
  | zero => intro n h h1; omega
  | succ f ih =>
    intro l hl0 h
    have hg : 0 < Nat.gcd l b := Nat.gcd_pos_of_pos_left _ hl0
    unfold lf
    by_cases e1 : Nat.gcd l b = 1
    · rw [if_pos e1]
      exact ⟨0, e1, Nat.dvd_refl _, by simp, hl0, by simp⟩
    · rw [if_neg e1]
      have hg2 : 1 < Nat.gcd l b := by omega
      have hd : Nat.gcd l b ∣ l := Nat.gcd_dvd_left _ _
      have hlt : l / Nat.gcd l b < l := Nat.div_lt_self hl0 hg2
      have hpos : 0 < l / Nat.gcd l b := Nat.div_pos (Nat.le_of_dvd hl0 hd) hg
      obtain ⟨k, q1, q2, q3, q4, q5⟩ := ih (l / Nat.gcd l b) hpos (by omega)
      have a : l = l / Nat.gcd l b * Nat.gcd l b := (Nat.div_mul_cancel hd).symm
      refine ⟨k + 1, q1, Nat.dvd_trans q2 (Nat.div_dvd_of_dvd hd), ?_, q4, ?_⟩
      · have b1 : l / Nat.gcd l b * Nat.gcd l b ∣ lf b f (l / Nat.gcd l b) * b ^ k * b := Nat.mul_dvd_mul q3 (Nat.gcd_dvd_right _ _)
        rw [← a] at b1
        rw [Nat.pow_succ, ← Nat.mul_assoc]
        exact b1
      · have b1 : lf b f (l / Nat.gcd l b) * 2 ^ k * 2 ≤ l / Nat.gcd l b * Nat.gcd l b := Nat.mul_le_mul q5 hg2
        rw [← a] at b1
        rw [Nat.pow_succ, ← Nat.mul_assoc]
        exact b1
theorem p_apart' {q b : Nat} (hb : 0 < b) (hq : 0 < q) (hq2 : q < 18446744073709551616) : F_apart [.int q, .int b] m = .ok (.val (.int (lf b q q))) m := by
  obtain ⟨l, k, e, x⟩ := p_apart (m := m) hb hq hq2
  obtain ⟨k', y⟩ := lf_L (b := b) q q hq (Nat.le_refl _)
  rw [e, x.uniq y]
theorem p_lstay' {q b : Nat} (hb : 0 < b) (hq : 0 < q) (hq2 : q < 18446744073709551616) : F__law_stay [.int q, .int b] m = .ok (.val (.int (lf b q q))) m := by
  obtain ⟨l, k, e, x⟩ := p_lstay (m := m) hb hq hq2
  obtain ⟨k', y⟩ := lf_L (b := b) q q hq (Nat.le_refl _)
  rw [e, x.uniq y]
section
variable {p q b : Nat}
theorem enN_q (l : List Nat) : D.q 1 (.tup (enN l)) = true := by
  unfold enN
  simp only [D.q, List.all_map]
  exact List.all_eq_true.mpr fun x _ => rfl
theorem enN_ql (l : List Nat) : D.q 1 (.lst (enN l)) = true := by
  unfold enN
  simp only [D.q, List.all_map]
  exact List.all_eq_true.mpr fun x _ => rfl
theorem enN_nb (l : List Nat) : D.nb 1 (.tup (enN l)) = true := by
  unfold enN
  simp only [D.nb, List.all_map]
  exact List.all_eq_true.mpr fun x _ => rfl
theorem enN_app (l l' : List Nat) : enN (l ++ l') = enN l ++ enN l' := by simp [enN]
theorem deq_len {l l' : List Nat} (h : l.length ≠ l'.length) : deq (.tup (enN l)) (.tup (enN l')) = false := by
  cases hz : deq (.tup (enN l)) (.tup (enN l')) with
  | false => rfl
  | true =>
    exfalso
    have := nb_deq (enN_nb l) (enN_nb l') hz
    simp only [D.tup.injEq] at this
    have := congrArg List.length this
    simp [enN] at this
    exact h this
theorem int_all (l : List Nat) : ∀ d ∈ enN l, F_is_integer [d] m = .ok (.val (.bl true)) m := by
  intro d hd
  obtain ⟨x, _, rfl⟩ := List.mem_map.mp hd
  exact p_is_integer _
theorem all_true (l : List Nat) : (enN l).all (fun _ => true) = true := List.all_eq_true.mpr fun _ _ => rfl
/-- what is told is right -/
theorem told_ok (X : Okk p q b) {l k T : Nat} {d : D} (x : Lft q b l k) (hd : (l = 1 ∧ T ≤ 11 ∧ Rr p q b T = 0 ∧ (∀ j, j < T → Rr p q b j ≠ 0) ∧ d = .tup [.str "ends", .tup (enN (dig b q T (p % q)))]) ∨ (1 < l ∧ d = .tup [.str "stays", .int l])) :
    F_is_ends [fr p q, .int b, d] m = .ok (.val (.bl true)) m := by
  rcases hd with ⟨rfl, t0, t1, t2, rfl⟩ | ⟨hl, rfl⟩
  · rw [ie_ends X x t0 t1 t2 (enN (dig b q T (p % q))) (by simp [enN, dig_len]; omega) (enN_q _) (fun _ => true) (int_all _), all_true, deq_refl _ (q_ok (enN_q _)).1]
    rfl
  · rw [ie_stays X, decide_eq_true (by omega : (2 : Int) ≤ l)]
    have h1 : (q : Int).fmod l = 0 := by
      rw [fmod_nat, Nat.mod_eq_zero_of_dvd x.dv]
      rfl
    have h2 : Int.gcd (l : Int) b = 1 := x.co
    rw [decide_eq_true h1, decide_eq_true h2]
    rfl
theorem goodE (X : Okk p q b) {k T : Nat} (x : Lft q b 1 k) (t0 : T ≤ 11) (t1 : Rr p q b T = 0) (t2 : ∀ j, j < T → Rr p q b j ≠ 0) : ∀ d ∈ wrE q (enN (dig b q T (p % q))), Good m p q b d := by
  have rS : okStr (reprText (Str.ofString "stays")) := okR _
  have rE : okStr (reprText (Str.ofString "ends")) := okR _
  have q1 := X.q1
  have hi : ∀ (l : List Nat), (∀ d ∈ l, d < 10 ^ 12) → l.length ≤ 20 → l.length ≠ T → Good m p q b (.tup [.str sE, .tup (enN l)]) := by
    intro l h1 h2 h3
    refine good_of 3 ?_ ?_ ?_
    · rw [ie_ends X x t0 t1 t2 (enN l) (by simp [enN]; omega) (enN_q _) (fun _ => true) (int_all _), deq_len (by rw [dig_len]; exact h3), Bool.and_false]
    · simp only [D.rp, List.mem_cons, List.not_mem_nil, or_false, forall_eq_or_imp, forall_eq]
      exact ⟨⟨okL _, rE⟩, rp_ints h1⟩
    · have : sE.cps.size = 4 := by decide
      simp only [D.py, D.pyL, PyData.bulk, PyData.bulkAll, bulk_ints]; omega
  have hd : ∀ d ∈ dig b q T (p % q), d < 10 ^ 12 := fun d h => by
    have := dig_lt (by have := X.b0; omega) X.q0 (Nat.mod_lt p X.q0) d h
    have := X.b1
    omega
  intro d hdm
  unfold wrE at hdm
  simp only [List.mem_cons, List.not_mem_nil, or_false] at hdm
  rcases hdm with rfl | rfl | rfl
  · have := hi (dig b q T (p % q) ++ [1]) (fun d h => by
      rcases List.mem_append.mp h with h | h
      · exact hd d h
      · rw [List.mem_singleton.mp h]; decide) (by simp [dig_len]; omega) (by simp [dig_len])
    rw [enN_app] at this
    exact this
  · have := hi (0 :: (dig b q T (p % q) ++ [1])) (fun d h => by
      rcases List.mem_cons.mp h with h | h
      · rw [h]; decide
      rcases List.mem_append.mp h with h | h
      · exact hd d h
      · rw [List.mem_singleton.mp h]; decide) (by simp [dig_len]; omega) (by simp [dig_len]; omega)
    have e : enN (0 :: (dig b q T (p % q) ++ [1])) = .int 0 :: (enN (dig b q T (p % q)) ++ [.int 1]) := by
      show D.int ((0 : Nat) : Int) :: enN _ = _
      rw [enN_app]
      rfl
    rw [e] at this
    exact this
  · refine good_of 2 ?_ ?_ ?_
    · rw [ie_stays X]
      by_cases h2 : 2 ≤ q
      · have h3 : ¬ Int.gcd (q : Int) b = 1 := fun e => by
          have y : Lft q b q 0 := ⟨e, Nat.dvd_refl _, by simp, X.q0, by simp⟩
          have := x.uniq y
          omega
        rw [decide_eq_false h3]
        simp
      · rw [decide_eq_false (by omega : ¬ (2 : Int) ≤ q)]
        rfl
    · simp [D.rp, okL, rS]; omega
    · simp [D.py, D.pyL, PyData.bulk, PyData.bulkAll]; decide
theorem goodS (X : Okk p q b) {l k : Nat} (x : Lft q b l k) (hl : 1 < l) : ∀ d ∈ wrS l (enN (dig b q 6 (p % q))), Good m p q b d := by
  have rS : okStr (reprText (Str.ofString "stays")) := okR _
  have rE : okStr (reprText (Str.ofString "ends")) := okR _
  have q1 := X.q1
  have s4 : (Str.ofString "ends").cps.size = 4 := by decide
  have hd : ∀ d ∈ dig b q 6 (p % q), d < 10 ^ 12 := fun d h => by
    have := dig_lt (by have := X.b0; omega) X.q0 (Nat.mod_lt p X.q0) d h
    have := X.b1
    omega
  have hlq : l ≤ q := Nat.le_of_dvd X.q0 x.dv
  intro d hdm
  unfold wrS at hdm
  simp only [List.mem_cons, List.not_mem_nil, or_false] at hdm
  rcases hdm with rfl | rfl | rfl
  · refine good_of 3 (ie_ends_apart X x hl _ (by simp [enN, dig_len])) ?_ ?_
    · simp only [D.rp, List.mem_cons, List.not_mem_nil, or_false, forall_eq_or_imp, forall_eq]
      exact ⟨⟨okL _, rE⟩, rp_ints hd⟩
    · simp only [D.py, D.pyL, PyData.bulk, PyData.bulkAll, bulk_ints, dig_len]; omega
  · exact good_of 3 (ie_ends_apart X x hl _ (by simp)) (by simp [D.rp, okL, rE]) (by decide)
  · refine good_of 2 ?_ ?_ ?_
    · rw [ie_stays X, decide_eq_false (by omega : ¬ (2 : Int) ≤ -(l : Int))]
      rfl
    · simp [D.rp, okL, rS]; omega
    · simp [D.py, D.pyL, PyData.bulk, PyData.bulkAll]; decide
end
end W
namespace W
open PySem PySem.Spec PyProof.Rows L2 DL
variable {m : List Ob}
/-! numbers whose parts end -/
def nums (lo n : Nat) : List Nat := List.range' lo n
theorem rg_nums (lo n : Nat) : rgD lo n = (nums lo n).map fun (d : Nat) => D.int d := by
  unfold rgD nums
  apply List.ext_getElem?
  intro i
  simp only [List.getElem?_map, List.getElem?_range']
  by_cases h : i < n
  · rw [List.getElem?_range h]
    simp [h]
  · rw [List.getElem?_eq_none (by simp; omega)]
    simp [h]
def endsB (b : Nat) (n : Nat) : Bool := decide (lf b n n = 1)
theorem p_back {b most : Nat} (h : 2 ≤ b) (h2 : b ≤ 60) (m1 : 1 ≤ most) (m2 : most ≤ 400) : F_back_pairs [.int b, .int most] m = .ok (.val (.tup (enN ((nums 1 most).filter (endsB b))))) m := by
  have e1 := p_check_base (m := m) h h2
  have e2 := p_is_within (m := m) (most : Int) 1 400
  have h3 : ((1 : Int) ≤ most ∧ (most : Int) ≤ 400) := by omega
  rw [decide_eq_true h3] at e2
  have e3 : mLc (iRg2 (mC (.int 1)) (mOp2L fOpAdd 1 (mC (.int 1)))) [2] (gV 2) ct1_back_pairs ce1_back_pairs ⟨[.val (.int b), .val (.int most), .no], m⟩ = _ :=
    mLc_map (ds := nums 1 most) (S1 := ⟨[.val (.int b), .val (.int most), .no], m⟩) (fun (d : Nat) => D.int d) (endsB b) (fun (d : Nat) => D.int d) (by
      have r1 : (-4611686018427387904 ≤ (most : Int) + 1 ∧ (most : Int) + 1 < 4611686018427387904) := by omega
      have r2 : ((most : Int) + 1 - 1).toNat = most := by omega
      simp [r1]
      exact rg_nums 1 most) (by simp [nums]; omega) (fun d hd => by
      have hd' : 0 < d ∧ d ≤ 400 := by
        have := List.mem_range'_1.mp hd
        omega
      have e := p_apart' (m := m) (q := d) (b := b) (by omega) hd'.1 (by omega)
      have hc : decide (((lf b d d : Nat) : Int) = 1) = endsB b d := by
        unfold endsB
        by_cases h : lf b d d = 1
        · rw [h]; rfl
        · rw [decide_eq_false h, decide_eq_false (by omega)]
      refine ⟨⟨[.val (.int b), .val (.int most), .val (.int d)], m⟩, ⟨[.val (.int b), .val (.int most), .val (.int d)], m⟩, rfl, ?_, fun _ => ⟨rfl, rfl⟩, fun _ => ⟨.val (.int d), ⟨[.val (.int b), .val (.int most), .val (.int d)], m⟩, by simp [ce1_back_pairs], rfl, rfl, rfl⟩⟩
      simp [ct1_back_pairs, e]
      unfold endsB
      by_cases h : lf b d d = 1
      · rw [h]; rfl
      · rw [decide_eq_false h, decide_eq_false (by omega)])
  simp [F_back_pairs, b_back_pairs, bodyF, e1, e2, e3]
  rfl
theorem filt_eq {b most : Nat} (m1 : 1 ≤ most) : ((nums 1 most).filter (endsB b)).filter (fun d => decide (1 < d)) = (nums 2 (most - 1)).filter (endsB b) := by
  obtain ⟨k, rfl⟩ : ∃ k, most = k + 1 := ⟨most - 1, by omega⟩
  have e : nums 1 (k + 1) = 1 :: nums 2 k := by unfold nums; rw [List.range'_succ]
  rw [e, Nat.add_sub_cancel, List.filter_filter, List.filter_cons_of_neg (by simp)]
  refine List.filter_congr fun x hx => ?_
  have := (List.mem_range'_1.mp hx).1
  simp; omega
end W
namespace W
open PySem PySem.Spec PyProof.Rows L2 DL
variable {m : List Ob}
/-- ends with True, the hand stands -/
def Ends (r : Res Fl) : Prop := ∃ S, r = .ok (.rt (.val (.bl true))) S ∧ IsH S.m
theorem q3_ok {b : Nat} (h : 2 ≤ b) (h2 : b ≤ 60) (H : IsH m) (s1 s3 s4 s5 s6 s7 : Sl) : Ends (q3__law_is_right ⟨[.val (.loc 0), s1, .val (.int b), s3, s4, s5, s6, s7, .no, .no, .no], m⟩) := by
  obtain ⟨r, m1, e1, H1, r0, r1⟩ := p_draw (m := m) 120 (by decide) (by decide) H
  obtain ⟨k, rfl⟩ : ∃ k : Nat, r = (k : Int) := ⟨r.toNat, by omega⟩
  have hm : (1 : Int) + (k : Int) = ((k + 1 : Nat) : Int) := by omega
  generalize hM : k + 1 = M at *
  have e2 : mLc (iRg2 (mC (.int 2)) (mOp2L fOpAdd 8 (mC (.int 1)))) [10] (gV 10) ct1__law_is_right ce1__law_is_right ⟨[.val (.loc 0), s1, .val (.int b), s3, s4, s5, s6, s7, .val (.int M), .no, .no], m1⟩ = _ :=
    mLc_map (ds := nums 2 (M - 1)) (S1 := ⟨[.val (.loc 0), s1, .val (.int b), s3, s4, s5, s6, s7, .val (.int M), .no, .no], m1⟩) (fun (d : Nat) => D.int d) (endsB b) (fun (d : Nat) => D.int d) (by
      have r1 : (-4611686018427387904 ≤ (M : Int) + 1 ∧ (M : Int) + 1 < 4611686018427387904) := by omega
      have r2 : ((M : Int) + 1 - 2).toNat = M - 1 := by omega
      simp [r1, r2]
      exact rg_nums 2 (M - 1)) (by simp [nums]; omega) (fun d hd => by
      have hd' : 0 < d ∧ d ≤ 400 := by
        have := List.mem_range'_1.mp hd
        omega
      have e := p_lstay' (m := m1) (q := d) (b := b) (by omega) hd'.1 (by omega)
      refine ⟨⟨[.val (.loc 0), s1, .val (.int b), s3, s4, s5, s6, s7, .val (.int M), .no, .val (.int d)], m1⟩, ⟨[.val (.loc 0), s1, .val (.int b), s3, s4, s5, s6, s7, .val (.int M), .no, .val (.int d)], m1⟩, rfl, ?_, fun _ => ⟨rfl, rfl⟩, fun _ => ⟨.val (.int d), ⟨[.val (.loc 0), s1, .val (.int b), s3, s4, s5, s6, s7, .val (.int M), .no, .val (.int d)], m1⟩, by simp [ce1__law_is_right], rfl, rfl, rfl⟩⟩
      simp [ct1__law_is_right, e]
      unfold endsB
      by_cases h : lf b d d = 1
      · rw [h]; rfl
      · rw [decide_eq_false h, decide_eq_false (by omega)])
  have e3 := p_back (m := m1) h h2 (most := M) (by omega) (by omega)
  have e4 : ∀ s9 : Sl, mLc (iSeq (mFn F_back_pairs (mACons (mVar 2) (mACons (mVar 8) mANil)))) [10] (gV 10) ct2__law_is_right ce2__law_is_right ⟨[.val (.loc 0), s1, .val (.int b), s3, s4, s5, s6, s7, .val (.int M), s9, .no], m1⟩ = _ := fun s9 =>
    mLc_map (ds := (nums 1 M).filter (endsB b)) (S1 := ⟨[.val (.loc 0), s1, .val (.int b), s3, s4, s5, s6, s7, .val (.int M), s9, .no], m1⟩) (fun (d : Nat) => D.int d) (fun d => decide (1 < d)) (fun (d : Nat) => D.int d) (by
      simp [e3]
      rfl) (by
        have := List.length_filter_le (endsB b) (nums 1 M)
        simp [nums] at this ⊢
        omega) (fun d hd => by
      refine ⟨⟨[.val (.loc 0), s1, .val (.int b), s3, s4, s5, s6, s7, .val (.int M), s9, .val (.int d)], m1⟩, ⟨[.val (.loc 0), s1, .val (.int b), s3, s4, s5, s6, s7, .val (.int M), s9, .val (.int d)], m1⟩, rfl, ?_, fun _ => ⟨rfl, rfl⟩, fun _ => ⟨.val (.int d), ⟨[.val (.loc 0), s1, .val (.int b), s3, s4, s5, s6, s7, .val (.int M), s9, .val (.int d)], m1⟩, by simp [ce2__law_is_right], rfl, rfl, rfl⟩⟩
      simp [ct2__law_is_right]
      omega)
  have e5 := filt_eq (b := b) (most := M) (by omega)
  rw [e5] at e4
  have e6 : ∀ l : List Nat, fEq m1 (.lst (l.map fun (d : Nat) => D.int d)) (.lst (l.map fun (d : Nat) => D.int d)) = some (.val (.bl true)) := fun l => eq_same (n := 1) (enN_ql l) rfl (by decide)
  refine ⟨_, by simp [q3__law_is_right, q2__law_is_right, q1__law_is_right, e1, hm, e2, e4, e6]; rfl, H1⟩
theorem q8_ok {p q b : Nat} (X : Okk p q b) (H : IsH m) : Ends (q8__law_is_right ⟨[.val (.loc 0), .val (fr p q), .val (.int b), .no, .no, .no, .no, .no, .no, .no, .no], m⟩) := by
  have b0 := X.b0
  have b1 := X.b1
  have q1 := X.q1
  obtain ⟨d, l, k, e1, _, x, c1, c2⟩ := p_ends (m := m) X.q0 X.q1 X.co X.b0 X.b1
  have e2 := p_lstay' (m := m) (q := q) (b := b) (by omega) X.q0 (by omega)
  obtain ⟨k', y⟩ := lf_L (b := b) q q X.q0 (Nat.le_refl _)
  have ey := x.uniq y
  rw [← ey] at e2
  have hE : fEq m (.str sE) (.str sE) = _ := fEq_str (okL _) (okL _)
  have hS : fEq m (.str sS) (.str sE) = _ := fEq_str (okL _) (okL _)
  rw [beq_self_eq_true] at hE
  rw [show (sS == sE) = false by decide] at hS
  have nb : ∀ c c' : Bool, fNe m (.bl c) (.bl c') = some (.val (.bl (!(c == c')))) := fun c c' => by rw [fNe_q (n := 0) (k := 0) rfl rfl, deq_bl]
  by_cases hl : l = 1
  · obtain ⟨T, t0, t1, t2, rfl⟩ := c1 hl
    subst hl
    have e3 := p_lall (m := m) X.q0 (by omega) (by omega) (by omega) t1 t2
    have e4 : F__law_is [.tup [.str sE, .tup (enN (dig b q T (p % q)))], .tup [.str sE, .tup (enN (dig b q T (p % q)))]] m = .ok (.val (.bl true)) m := is_same (n := 2) ⟨by simp, fun d hd => by
      simp at hd
      rcases hd with rfl | rfl
      · exact okL _
      · refine ⟨by simp [enN, dig_len]; omega, fun e he => ?_⟩
        obtain ⟨z, _, rfl⟩ := List.mem_map.mp he
        trivial⟩
    have Y : Pq p q b T := ⟨X.q0, by omega, by have := X.p1; omega, X.co, X.b0, X.b1, by omega⟩
    have e5 := p_written (m := m) Y
    have e6 : fNe m (.tup (enN (dig b q T (p % q)))) (.tup (enN (dig b q T (p % q)))) = some (.val (.bl false)) := ne_same (enN_q _) rfl (by decide)
    have e7 := told_ok (m := m) (T := T) X x (.inl ⟨rfl, t0, t1, t2, rfl⟩)
    have e8 := p_wrong_ends (m := m) (p := p) (q := q) (b := b) (enN (dig b q T (p % q))) (by simp [enN, dig_len]; omega) (.loc 0)
    have g1 := good0 (m := m) (w := sE) (v := .tup (enN (dig b q T (p % q)))) X x (fun _ => ⟨T, t0, t1, t2⟩) ⟨okL _, okR _⟩ (by decide) (by
      show D.rp (39 + 1) _
      unfold D.rp
      exact rp_ints fun d h => by
        have := dig_lt (by omega) X.q0 (Nat.mod_lt p X.q0) d h
        omega) (by simp only [D.py, PyData.bulk, bulk_ints, dig_len]; omega)
    have g2 := goodE (m := m) X x t0 t1 t2
    have len : (enN (dig b q T (p % q))).length = T := by simp [enN, dig_len]
    have T13 : (T : Int) < 13 := by omega
    have T13' : T < 13 := by omega
    have g3 := right_loop (m := m) (p := p) (q := q) (b := b) (wr0 p q b sE (.tup (enN (dig b q T (p % q)))) ++ wrE q (enN (dig b q T (p % q)))) (fun d hd => by
      rcases List.mem_append.mp hd with h | h
      · exact g1 d h
      · exact g2 d h) (.val (.loc 0)) (.val (.tup [.str sE, .tup (enN (dig b q T (p % q)))])) (.val (.tup (enN (dig b q T (p % q))))) .no .no .no .no .no .no
    obtain ⟨s6, s7, g3⟩ := g3
    obtain ⟨S', f1, f2⟩ := q3_ok (m := m) X.b0 X.b1 H (.val (fr p q)) (.val (.tup [.str sE, .tup (enN (dig b q T (p % q)))])) (.val (.tup (enN (dig b q T (p % q))))) .no s6 s7
    refine ⟨S', ?_, f2⟩
    simp only [wr] at e5
    generalize enN (dig b q T (p % q)) = V at *
    generalize hW : p / q = W at *
    simp only [fr] at *
    simp [q8__law_is_right, q7__law_is_right, q6__law_is_right, q5__law_is_right, q4__law_is_right, e1, e2, e3, e4, e5, e6, e7, e8, hE, hS, nb, len, T13, T13', g3, f1]
  · have hl2 : 1 < l := by have := x.po; omega
    obtain rfl := c2 hl2
    have hl3 : ¬ ((l : Int) = 1) := by omega
    have hl4 : ¬ ((l : Int) < 2) := by omega
    have l0 : l ≠ 0 := by omega
    have e3 := p_ldiv (m := m) l b
    rw [x.co] at e3
    have e4 : (q : Int).fmod l = 0 := by
      rw [fmod_nat, Nat.mod_eq_zero_of_dvd x.dv]
      rfl
    have e7 := told_ok (m := m) (T := 0) X x (.inr ⟨hl2, rfl⟩)
    have Y : Pq p q b 6 := ⟨X.q0, by omega, by have := X.p1; omega, X.co, X.b0, X.b1, by omega⟩
    have e8 := p_wrong_stays (m := m) Y (l : Int) (.loc 0)
    have hlq : l ≤ q := Nat.le_of_dvd X.q0 x.dv
    have g1 := good0 (m := m) (w := sS) (v := .int l) X x (fun z => absurd z hl) ⟨okL _, okR _⟩ (by decide) (by unfold D.rp; simp; omega) (by simp [D.py, PyData.bulk])
    have g2 := goodS (m := m) X x hl2
    have g3 := right_loop (m := m) (p := p) (q := q) (b := b) (wr0 p q b sS (.int l) ++ wrS l (enN (dig b q 6 (p % q)))) (fun d hd => by
      rcases List.mem_append.mp hd with h | h
      · exact g1 d h
      · exact g2 d h) (.val (.loc 0)) (.val (.tup [.str sS, .int l])) .no (.val (.int l)) .no .no .no .no .no
    obtain ⟨s6, s7, g3⟩ := g3
    obtain ⟨S', f1, f2⟩ := q3_ok (m := m) X.b0 X.b1 H (.val (fr p q)) (.val (.tup [.str sS, .int l])) .no (.val (.int l)) s6 s7
    refine ⟨S', ?_, f2⟩
    simp only [fr] at *
    simp [q8__law_is_right, q7__law_is_right, q6__law_is_right, q5__law_is_right, q4__law_is_right, e1, e2, e3, e4, e7, e8, hE, hS, nb, hl, hl3, hl4, l0, g3, f1, fIsi, tyD, knownT, isT]
end W
namespace W
open PySem PySem.Spec PyProof.Rows L2 DL
variable {m : List Ob}
theorem p_right (H : IsH m) : ∃ m', F__law_is_right [.loc 0] m = .ok (.val (.bl true)) m' ∧ IsH m' := by
  obtain ⟨p, q, m1, e1, H1, q0, q1, p1, co⟩ := p_x H
  obtain ⟨b', m2, e2, H2, b0, b1⟩ := p_draw (m := m1) 59 (by decide) (by decide) H1
  obtain ⟨c, m3, e3, H3, c0, c1⟩ := p_draw (m := m2) 3 (by decide) (by decide) H2
  obtain ⟨b, rfl⟩ : ∃ b : Nat, b' = (b : Int) := ⟨b'.toNat, by omega⟩
  generalize hB : b + 2 = B at *
  have eB : (2 : Int) + (b : Int) = (B : Nat) := by omega
  have hB0 : 2 ≤ B := by omega
  have hB1 : B ≤ 60 := by omega
  by_cases hc : c = 0
  · subst hc
    obtain ⟨t, m4, e4, H4, t0, t1⟩ := p_draw (m := m3) 200 (by decide) (by decide) H3
    obtain ⟨d, m5, e5, H5, hd⟩ := p_some (m := m4) [.int B, .int ((B : Int) * B), .int (2 * (B : Int)), .int (3 * (B : Int))] (by simp) (by simp) H4
    obtain ⟨v, rfl, v0, v1⟩ : ∃ v : Nat, d = .int v ∧ 0 < v ∧ v ≤ 3600 := by
      have hBB := Nat.mul_le_mul hB1 hB1
      have hB2 : 0 < B * B := Nat.mul_pos (by omega) (by omega)
      simp at hd
      rcases hd with rfl | rfl | rfl | rfl
      · exact ⟨B, rfl, by omega, by omega⟩
      · exact ⟨B * B, by simp, hB2, by omega⟩
      · exact ⟨2 * B, by simp, by omega, by omega⟩
      · exact ⟨3 * B, by simp, by omega, by omega⟩
    obtain ⟨p', q', f1, f2, f3, f4, f5, _⟩ := fr_of t.toNat v v0
    have L := p_low (m := m5) t v (n := 64) v0 (by omega) (by decide)
    rw [show mkRat t v = mkRat (t.toNat : Int) v by rw [show (t.toNat : Int) = t by omega], f1] at L
    have X : Okk p' q' B := ⟨f2, by omega, by omega, f3, hB0, hB1⟩
    obtain ⟨S, eS, hS⟩ := q8_ok X H5
    refine ⟨S.m, ?_, hS⟩
    have o1 : mulOk (B : Int) B = true := mulOk_r (by omega)
    have o2 : mulOk 2 (B : Int) = true := mulOk_r (by omega)
    have o3 : mulOk 3 (B : Int) = true := mulOk_r (by omega)
    simp only [fr] at *
    simp [F__law_is_right, b__law_is_right, q9__law_is_right, bodyF, e1, e2, e3, eB, e4, e5, L, o1, o2, o3, eS]
  · have X : Okk p q B := ⟨q0, by omega, by omega, co, hB0, hB1⟩
    obtain ⟨S, eS, hS⟩ := q8_ok X H3
    refine ⟨S.m, ?_, hS⟩
    simp only [fr] at *
    simp [F__law_is_right, b__law_is_right, q9__law_is_right, bodyF, e1, e2, e3, eB, hc, eS]
theorem ends_c {p q b l k T : Nat} (X : Okk p q b) (x : Lft q b l k) (d : D) (hd : (l = 1 ∧ Rr p q b T = 0 ∧ (∀ j, j < T → Rr p q b j ≠ 0) ∧ d = .tup [.str "ends", .tup (enN (dig b q T (p % q)))]) ∨ (1 < l ∧ d = .tup [.str "stays", .int l])) :
    F_ends [fr p q, .int b] m = .ok (.val d) m := by
  obtain ⟨d', l', k', e1, _, x', c1, c2⟩ := p_ends (m := m) X.q0 X.q1 X.co X.b0 X.b1
  have := x.uniq x'
  subst this
  rw [e1]
  rcases hd with ⟨rfl, t1, t2, rfl⟩ | ⟨hl, rfl⟩
  · obtain ⟨T', _, u1, u2, rfl⟩ := c1 rfl
    have : T' = T := by
      rcases Nat.lt_trichotomy T' T with h | h | h
      · exact absurd u1 (t2 T' h)
      · exact h
      · exact absurd t1 (u2 T h)
    rw [this]
  · rw [c2 hl]
theorem p_law (ns : List Int) : ∃ m', F_law [.frl (ns.map .int)] [] = .ok (.val (.bl true)) m' := by
  obtain ⟨m1, e1, H1⟩ := p_hand ns
  have w1 := ends_c (m := m1) (p := 1) (q := 8) (b := 10) (l := 1) (k := 3) (T := 3) ⟨by decide, by decide, by decide, by decide, by decide, by decide⟩ ⟨by decide, by decide, by decide, by decide, by decide⟩ (.tup [.str sE, .tup [.int 1, .int 2, .int 5]]) (.inl ⟨rfl, by decide, by decide, rfl⟩)
  have w2 := ends_c (m := m1) (p := 7) (q := 1) (b := 10) (l := 1) (k := 0) (T := 0) ⟨by decide, by decide, by decide, by decide, by decide, by decide⟩ ⟨by decide, by decide, by decide, by decide, by decide⟩ (.tup [.str sE, .tup []]) (.inl ⟨rfl, by decide, by decide, rfl⟩)
  have w3 := ends_c (m := m1) (p := 1) (q := 7) (b := 60) (l := 7) (k := 0) (T := 0) ⟨by decide, by decide, by decide, by decide, by decide, by decide⟩ ⟨by decide, by decide, by decide, by decide, by decide⟩ (.tup [.str sS, .int 7]) (.inr ⟨by decide, rfl⟩)
  have w4 := p_back (m := m1) (b := 60) (most := 16) (by decide) (by decide) (by decide) (by decide)
  have f1 : fNe m1 (.tup [.str sE, .tup [.int 1, .int 2, .int 5]]) (.tup [.str sE, .tup [.int 1, .int 2, .int 5]]) = some (.val (.bl false)) := ne_same (n := 2) (by simp [D.q]; exact okL _) rfl (by decide)
  have f2 : fNe m1 (.tup [.str sE, .tup []]) (.tup [.str sE, .tup []]) = some (.val (.bl false)) := ne_same (n := 2) (by simp [D.q]; exact okL _) rfl (by decide)
  have f3 : fNe m1 (.tup [.str sS, .int 7]) (.tup [.str sS, .int 7]) = some (.val (.bl false)) := ne_same (n := 1) (by simp [D.q]; exact okL _) rfl (by decide)
  have w5 : mLc (iSeq (mFn F_back_pairs (mACons (mC (.int 60)) (mACons (mC (.int 16)) mANil)))) [2] (gV 2) ct1_law ce1_law ⟨[.val (.frl (ns.map .int)), .val (.loc 0), .no, .no], m1⟩ = _ :=
    mLc_map (ds := (nums 1 16).filter (endsB 60)) (S1 := ⟨[.val (.frl (ns.map .int)), .val (.loc 0), .no, .no], m1⟩) (fun (d : Nat) => D.int d) (fun d => decide (1 < d)) (fun (d : Nat) => D.int d) (by
      simp at w4
      simp [w4]
      rfl) (by decide +kernel) (fun d hd => by
      refine ⟨⟨[.val (.frl (ns.map .int)), .val (.loc 0), .val (.int d), .no], m1⟩, ⟨[.val (.frl (ns.map .int)), .val (.loc 0), .val (.int d), .no], m1⟩, rfl, ?_, fun _ => ⟨rfl, rfl⟩, fun _ => ⟨.val (.int d), ⟨[.val (.frl (ns.map .int)), .val (.loc 0), .val (.int d), .no], m1⟩, by simp [ce1_law], rfl, rfl, rfl⟩⟩
      simp [ct1_law]
      omega)
  have hl : ((nums 1 16).filter (endsB 60)).filter (fun d => decide (1 < d)) = [2, 3, 4, 5, 6, 8, 9, 10, 12, 15, 16] := by decide +kernel
  rw [hl] at w5
  have f4 : fNe m1 (.lst ([2, 3, 4, 5, 6, 8, 9, 10, 12, 15, 16].map fun (d : Nat) => D.int d)) (.lst [.int 2, .int 3, .int 4, .int 5, .int 6, .int 8, .int 9, .int 10, .int 12, .int 15, .int 16]) = some (.val (.bl false)) := ne_same (n := 1) (enN_ql [2, 3, 4, 5, 6, 8, 9, 10, 12, 15, 16]) rfl (by decide)
  generalize ([2, 3, 4, 5, 6, 8, 9, 10, 12, 15, 16].map fun (d : Nat) => D.int d) = LL at *
  obtain ⟨out, m', e2, H2, h2, h3⟩ := mLc_inv (it := iRg1 (mC (.int 6))) (vs := [3]) (g := gV 3) (el := ce2_law) (S := ⟨[.val (.frl (ns.map .int)), .val (.loc 0), .no, .no], m1⟩) (S1 := ⟨[.val (.frl (ns.map .int)), .val (.loc 0), .no, .no], m1⟩) (ds := rgD 0 6) IsH (fun d => d = .bl true) (by simp) (by rw [rg_len]; decide) H1 (fun d hd mm hm => by
    obtain ⟨m2, e, hm2⟩ := p_right hm
    exact ⟨_, .val (.bl true), ⟨[.val (.frl (ns.map .int)), .val (.loc 0), .no, .val d], m2⟩, rfl, by simp [ce2_law, e], rfl, rfl, hm2⟩)
  have e3 : fAll m' (.lst out) = some (.val (.bl true)) := by
    have : out = List.replicate out.length (.bl true) := List.eq_replicate_of_mem h2
    rw [this, fAll_lst]
    have hb : ∀ n : Nat, blsD (List.replicate n (D.bl true)) = some (List.replicate n true) := by
      intro n
      induction n with
      | zero => rfl
      | succ n ih => simp [List.replicate_succ, blsD, ih]
    rw [hb]
    simp
  refine ⟨m', ?_⟩
  simp only [fr] at w1 w2 w3
  simp at w1 w2 w3
  simp [F_law, b_law, bodyF, e1, w1, w2, w3, f1, f2, f3, f4, w5, e2, e3]
end W
namespace W
open PySem PySem.Spec PyProof.Rows L2 DL
def d_is_integer : He.DefD := ⟨("is_integer", none), "is_integer", "is_integer", defArgs s_is_integer, defBody s_is_integer, defScope s_is_integer, [], []⟩
def d_is_within : He.DefD := ⟨("is_within", none), "is_within", "is_within", defArgs s_is_within, defBody s_is_within, defScope s_is_within, [], []⟩
def d_is_tuple : He.DefD := ⟨("is_tuple", none), "is_tuple", "is_tuple", defArgs s_is_tuple, defBody s_is_tuple, defScope s_is_tuple, [], []⟩
def d_divisor : He.DefD := ⟨("divisor", none), "divisor", "divisor", defArgs s_divisor, defBody s_divisor, defScope s_divisor, [], []⟩
def d_reduced : He.DefD := ⟨("reduced", none), "reduced", "reduced", defArgs s_reduced, defBody s_reduced, defScope s_reduced, [], []⟩
def d_is_fraction : He.DefD := ⟨("is_fraction", none), "is_fraction", "is_fraction", defArgs s_is_fraction, defBody s_is_fraction, defScope s_is_fraction, [], []⟩
def d_check_base : He.DefD := ⟨("check_base", none), "check_base", "check_base", defArgs s_check_base, defBody s_check_base, defScope s_check_base, [], []⟩
def d_check_part : He.DefD := ⟨("check_part", none), "check_part", "check_part", defArgs s_check_part, defBody s_check_part, defScope s_check_part, [], []⟩
def d_digits_of : He.DefD := ⟨("digits_of", none), "digits_of", "digits_of", defArgs s_digits_of, defBody s_digits_of, defScope s_digits_of, [], []⟩
def d_check_written : He.DefD := ⟨("check_written", none), "check_written", "check_written", defArgs s_check_written, defBody s_check_written, defScope s_check_written, [], []⟩
def d_written : He.DefD := ⟨("written", none), "written", "written", defArgs s_written, defBody s_written, defScope s_written, [], []⟩
def d_apart : He.DefD := ⟨("apart", none), "apart", "apart", defArgs s_apart, defBody s_apart, defScope s_apart, [], []⟩
def d_all_digits : He.DefD := ⟨("all_digits", none), "all_digits", "all_digits", defArgs s_all_digits, defBody s_all_digits, defScope s_all_digits, [], []⟩
def d_ends : He.DefD := ⟨("ends", none), "ends", "ends", defArgs s_ends, defBody s_ends, defScope s_ends, [], []⟩
def d_is_ends : He.DefD := ⟨("is_ends", none), "is_ends", "is_ends", defArgs s_is_ends, defBody s_is_ends, defScope s_is_ends, [], []⟩
def d_back_pairs : He.DefD := ⟨("back_pairs", none), "back_pairs", "back_pairs", defArgs s_back_pairs, defBody s_back_pairs, defScope s_back_pairs, [], []⟩
def d__law_hand : He.DefD := ⟨("_law_hand", none), "_law_hand", "_law_hand", defArgs s__law_hand, defBody s__law_hand, defScope s__law_hand, [], []⟩
def d__law_draw : He.DefD := ⟨("_law_draw", none), "_law_draw", "_law_draw", defArgs s__law_draw, defBody s__law_draw, defScope s__law_draw, [], []⟩
def d__law_some : He.DefD := ⟨("_law_some", none), "_law_some", "_law_some", defArgs s__law_some, defBody s__law_some, defScope s__law_some, [], []⟩
def d__law_is : He.DefD := ⟨("_law_is", none), "_law_is", "_law_is", defArgs s__law_is, defBody s__law_is, defScope s__law_is, [], []⟩
def d__law_deep : He.DefD := ⟨("_law_deep", none), "_law_deep", "_law_deep", defArgs s__law_deep, defBody s__law_deep, defScope s__law_deep, [], []⟩
def d__law_low : He.DefD := ⟨("_law_low", none), "_law_low", "_law_low", defArgs s__law_low, defBody s__law_low, defScope s__law_low, [], []⟩
def d__law_divisor : He.DefD := ⟨("_law_divisor", none), "_law_divisor", "_law_divisor", defArgs s__law_divisor, defBody s__law_divisor, defScope s__law_divisor, [], []⟩
def d__law_x : He.DefD := ⟨("_law_x", none), "_law_x", "_law_x", defArgs s__law_x, defBody s__law_x, defScope s__law_x, [], []⟩
def d__law_stay : He.DefD := ⟨("_law_stay", none), "_law_stay", "_law_stay", defArgs s__law_stay, defBody s__law_stay, defScope s__law_stay, [], []⟩
def d__law_all_digits : He.DefD := ⟨("_law_all_digits", none), "_law_all_digits", "_law_all_digits", defArgs s__law_all_digits, defBody s__law_all_digits, defScope s__law_all_digits, [], []⟩
def d__law_wrong : He.DefD := ⟨("_law_wrong", none), "_law_wrong", "_law_wrong", defArgs s__law_wrong, defBody s__law_wrong, defScope s__law_wrong, [], []⟩
def d__law_is_right : He.DefD := ⟨("_law_is_right", none), "_law_is_right", "_law_is_right", defArgs s__law_is_right, defBody s__law_is_right, defScope s__law_is_right, [], []⟩
def d_law : He.DefD := ⟨("law", none), "law", "law", defArgs s_law, defBody s_law, defScope s_law, [], []⟩
def fn : List He.DefD := [d_is_integer, d_is_within, d_is_tuple, d_divisor, d_reduced, d_is_fraction, d_check_base, d_check_part, d_digits_of, d_check_written, d_written, d_apart, d_all_digits, d_ends, d_is_ends, d_back_pairs, d__law_hand, d__law_draw, d__law_some, d__law_is, d__law_deep, d__law_low, d__law_divisor, d__law_x, d__law_stay, d__law_all_digits, d__law_wrong, d__law_is_right, d_law]
def fa : List He.Fa := [.glo "is_integer", .glo "is_within", .glo "is_tuple", .glo "divisor", .glo "reduced", .glo "is_fraction", .glo "check_base", .glo "check_part", .glo "digits_of", .glo "check_written", .glo "written", .glo "apart", .glo "all_digits", .glo "ends", .glo "is_ends", .glo "back_pairs", .glo "_law_hand", .glo "_law_draw", .glo "_law_some", .glo "_law_is", .glo "_law_deep", .glo "_law_low", .glo "_law_divisor", .glo "_law_x", .glo "_law_stay", .glo "_law_all_digits", .glo "_law_wrong", .glo "_law_is_right", .glo "law", .free "isinstance", .free "bool", .free "int", .free "len", .free "tuple", .free "abs", .free "all", .int "LEAST_BASE" 2, .int "MOST_BASE" 60, .free "range", .int "MOST_DIGITS" 12, .free "str", .int "MOST_JUDGED" 2000, .int "MOST_NUMBER" 400, .free "list", .free "zip", .free "dict", .free "repr"]
theorem facts {P : Program} {w : World} {K : PySem.W.Frag} {h : Heap} {mg : Str → Option Value} {f : Addr} (X : K.In h) (G : h.Ns mainGlobals mg) (hfa : mg ("law" : Str) = some (.ref f)) (c : He.SaysD fa fn K) :
    ∃ fd : FuncData, (∀ (s : Shared) (v : Value), BindsTo s fd ⟨[v], []⟩ [("script", v)]) ∧ ∀ base : Heap, FnG P w K mg base 11 f fd ["script"] F_law := by
  have m_isinstance := He.free_ok X G (c.fact 29 (f := .free "isinstance") rfl)
  have m_bool := He.free_ok X G (c.fact 30 (f := .free "bool") rfl)
  have m_int := He.free_ok X G (c.fact 31 (f := .free "int") rfl)
  have m_len := He.free_ok X G (c.fact 32 (f := .free "len") rfl)
  have m_tuple := He.free_ok X G (c.fact 33 (f := .free "tuple") rfl)
  have m_abs := He.free_ok X G (c.fact 34 (f := .free "abs") rfl)
  have m_all := He.free_ok X G (c.fact 35 (f := .free "all") rfl)
  have i_LEAST_BASE := He.int_ok X G (c.fact 36 (f := .int "LEAST_BASE" 2) rfl)
  have i_MOST_BASE := He.int_ok X G (c.fact 37 (f := .int "MOST_BASE" 60) rfl)
  have m_range := He.free_ok X G (c.fact 38 (f := .free "range") rfl)
  have i_MOST_DIGITS := He.int_ok X G (c.fact 39 (f := .int "MOST_DIGITS" 12) rfl)
  have m_str := He.free_ok X G (c.fact 40 (f := .free "str") rfl)
  have i_MOST_JUDGED := He.int_ok X G (c.fact 41 (f := .int "MOST_JUDGED" 2000) rfl)
  have i_MOST_NUMBER := He.int_ok X G (c.fact 42 (f := .int "MOST_NUMBER" 400) rfl)
  have m_list := He.free_ok X G (c.fact 43 (f := .free "list") rfl)
  have m_zip := He.free_ok X G (c.fact 44 (f := .free "zip") rfl)
  have m_dict := He.free_ok X G (c.fact 45 (f := .free "dict") rfl)
  have m_repr := He.free_ok X G (c.fact 46 (f := .free "repr") rfl)
  obtain ⟨fd_is_integer, D_is_integer⟩ := c.def_ 0 (d := d_is_integer) rfl
  have l_is_integer := He.glo_ok X G (c.fact 0 (f := .glo "is_integer") rfl)
  obtain ⟨fd_is_within, D_is_within⟩ := c.def_ 1 (d := d_is_within) rfl
  have l_is_within := He.glo_ok X G (c.fact 1 (f := .glo "is_within") rfl)
  obtain ⟨fd_is_tuple, D_is_tuple⟩ := c.def_ 2 (d := d_is_tuple) rfl
  have l_is_tuple := He.glo_ok X G (c.fact 2 (f := .glo "is_tuple") rfl)
  obtain ⟨fd_divisor, D_divisor⟩ := c.def_ 3 (d := d_divisor) rfl
  have l_divisor := He.glo_ok X G (c.fact 3 (f := .glo "divisor") rfl)
  obtain ⟨fd_reduced, D_reduced⟩ := c.def_ 4 (d := d_reduced) rfl
  have l_reduced := He.glo_ok X G (c.fact 4 (f := .glo "reduced") rfl)
  obtain ⟨fd_is_fraction, D_is_fraction⟩ := c.def_ 5 (d := d_is_fraction) rfl
  have l_is_fraction := He.glo_ok X G (c.fact 5 (f := .glo "is_fraction") rfl)
  obtain ⟨fd_check_base, D_check_base⟩ := c.def_ 6 (d := d_check_base) rfl
  have l_check_base := He.glo_ok X G (c.fact 6 (f := .glo "check_base") rfl)
  obtain ⟨fd_check_part, D_check_part⟩ := c.def_ 7 (d := d_check_part) rfl
  have l_check_part := He.glo_ok X G (c.fact 7 (f := .glo "check_part") rfl)
  obtain ⟨fd_digits_of, D_digits_of⟩ := c.def_ 8 (d := d_digits_of) rfl
  have l_digits_of := He.glo_ok X G (c.fact 8 (f := .glo "digits_of") rfl)
  obtain ⟨fd_check_written, D_check_written⟩ := c.def_ 9 (d := d_check_written) rfl
  have l_check_written := He.glo_ok X G (c.fact 9 (f := .glo "check_written") rfl)
  obtain ⟨fd_written, D_written⟩ := c.def_ 10 (d := d_written) rfl
  have l_written := He.glo_ok X G (c.fact 10 (f := .glo "written") rfl)
  obtain ⟨fd_apart, D_apart⟩ := c.def_ 11 (d := d_apart) rfl
  have l_apart := He.glo_ok X G (c.fact 11 (f := .glo "apart") rfl)
  obtain ⟨fd_all_digits, D_all_digits⟩ := c.def_ 12 (d := d_all_digits) rfl
  have l_all_digits := He.glo_ok X G (c.fact 12 (f := .glo "all_digits") rfl)
  obtain ⟨fd_ends, D_ends⟩ := c.def_ 13 (d := d_ends) rfl
  have l_ends := He.glo_ok X G (c.fact 13 (f := .glo "ends") rfl)
  obtain ⟨fd_is_ends, D_is_ends⟩ := c.def_ 14 (d := d_is_ends) rfl
  have l_is_ends := He.glo_ok X G (c.fact 14 (f := .glo "is_ends") rfl)
  obtain ⟨fd_back_pairs, D_back_pairs⟩ := c.def_ 15 (d := d_back_pairs) rfl
  have l_back_pairs := He.glo_ok X G (c.fact 15 (f := .glo "back_pairs") rfl)
  obtain ⟨fd__law_hand, D__law_hand⟩ := c.def_ 16 (d := d__law_hand) rfl
  have l__law_hand := He.glo_ok X G (c.fact 16 (f := .glo "_law_hand") rfl)
  obtain ⟨fd__law_draw, D__law_draw⟩ := c.def_ 17 (d := d__law_draw) rfl
  have l__law_draw := He.glo_ok X G (c.fact 17 (f := .glo "_law_draw") rfl)
  obtain ⟨fd__law_some, D__law_some⟩ := c.def_ 18 (d := d__law_some) rfl
  have l__law_some := He.glo_ok X G (c.fact 18 (f := .glo "_law_some") rfl)
  obtain ⟨fd__law_is, D__law_is⟩ := c.def_ 19 (d := d__law_is) rfl
  have l__law_is := He.glo_ok X G (c.fact 19 (f := .glo "_law_is") rfl)
  obtain ⟨fd__law_deep, D__law_deep⟩ := c.def_ 20 (d := d__law_deep) rfl
  have l__law_deep := He.glo_ok X G (c.fact 20 (f := .glo "_law_deep") rfl)
  obtain ⟨fd__law_low, D__law_low⟩ := c.def_ 21 (d := d__law_low) rfl
  have l__law_low := He.glo_ok X G (c.fact 21 (f := .glo "_law_low") rfl)
  obtain ⟨fd__law_divisor, D__law_divisor⟩ := c.def_ 22 (d := d__law_divisor) rfl
  have l__law_divisor := He.glo_ok X G (c.fact 22 (f := .glo "_law_divisor") rfl)
  obtain ⟨fd__law_x, D__law_x⟩ := c.def_ 23 (d := d__law_x) rfl
  have l__law_x := He.glo_ok X G (c.fact 23 (f := .glo "_law_x") rfl)
  obtain ⟨fd__law_stay, D__law_stay⟩ := c.def_ 24 (d := d__law_stay) rfl
  have l__law_stay := He.glo_ok X G (c.fact 24 (f := .glo "_law_stay") rfl)
  obtain ⟨fd__law_all_digits, D__law_all_digits⟩ := c.def_ 25 (d := d__law_all_digits) rfl
  have l__law_all_digits := He.glo_ok X G (c.fact 25 (f := .glo "_law_all_digits") rfl)
  obtain ⟨fd__law_wrong, D__law_wrong⟩ := c.def_ 26 (d := d__law_wrong) rfl
  have l__law_wrong := He.glo_ok X G (c.fact 26 (f := .glo "_law_wrong") rfl)
  obtain ⟨fd__law_is_right, D__law_is_right⟩ := c.def_ 27 (d := d__law_is_right) rfl
  have l__law_is_right := He.glo_ok X G (c.fact 27 (f := .glo "_law_is_right") rfl)
  obtain ⟨fd_law, D_law⟩ := c.def_ 28 (d := d_law) rfl
  have l_law := He.glo_ok X G (c.fact 28 (f := .glo "law") rfl)
  have c_is_integer : ∀ base, CalG P w K mg base 1 1 "is_integer" F_is_integer := fun base => ⟨_, _, _, g_is_integer D_is_integer m_isinstance m_bool m_int, l_is_integer, D_is_integer.kp, D_is_integer.bindsN (fun _ _ _ _ _ _ us hl => match us, hl with | [_], _ => rfl), rfl⟩
  have c_is_within : ∀ base, CalG P w K mg base 2 3 "is_within" F_is_within := fun base => ⟨_, _, _, g_is_within D_is_within (c_is_integer _), l_is_within, D_is_within.kp, D_is_within.bindsN (fun _ _ _ _ _ _ us hl => match us, hl with | [_, _, _], _ => rfl), rfl⟩
  have c_is_tuple : ∀ base, CalG P w K mg base 1 3 "is_tuple" F_is_tuple := fun base => ⟨_, _, _, g_is_tuple D_is_tuple m_len m_isinstance m_tuple, l_is_tuple, D_is_tuple.kp, D_is_tuple.bindsN (fun _ _ _ _ _ _ us hl => match us, hl with | [_, _, _], _ => rfl), rfl⟩
  have c_divisor : ∀ base, CalG P w K mg base 1 2 "divisor" F_divisor := fun base => ⟨_, _, _, g_divisor D_divisor m_abs, l_divisor, D_divisor.kp, D_divisor.bindsN (fun _ _ _ _ _ _ us hl => match us, hl with | [_, _], _ => rfl), rfl⟩
  have c_reduced : ∀ base, CalG P w K mg base 2 2 "reduced" F_reduced := fun base => ⟨_, _, _, g_reduced D_reduced (c_divisor _), l_reduced, D_reduced.kp, D_reduced.bindsN (fun _ _ _ _ _ _ us hl => match us, hl with | [_, _], _ => rfl), rfl⟩
  have c_is_fraction : ∀ base, CalG P w K mg base 3 1 "is_fraction" F_is_fraction := fun base => ⟨_, _, _, g_is_fraction D_is_fraction (c_is_tuple _) (c_reduced _) m_all m_isinstance m_bool m_int, l_is_fraction, D_is_fraction.kp, D_is_fraction.bindsN (fun _ _ _ _ _ _ us hl => match us, hl with | [_], _ => rfl), rfl⟩
  have c_check_base : ∀ base, CalG P w K mg base 3 1 "check_base" F_check_base := fun base => ⟨_, _, _, g_check_base D_check_base (c_is_within _) i_LEAST_BASE i_MOST_BASE, l_check_base, D_check_base.kp, D_check_base.bindsN (fun _ _ _ _ _ _ us hl => match us, hl with | [_], _ => rfl), rfl⟩
  have c_check_part : ∀ base, CalG P w K mg base 4 2 "check_part" F_check_part := fun base => ⟨_, _, _, g_check_part D_check_part (c_check_base _) (c_is_fraction _), l_check_part, D_check_part.kp, D_check_part.bindsN (fun _ _ _ _ _ _ us hl => match us, hl with | [_, _], _ => rfl), rfl⟩
  have c_digits_of : ∀ base, CalG P w K mg base 1 3 "digits_of" F_digits_of := fun base => ⟨_, _, _, g_digits_of D_digits_of m_range m_tuple, l_digits_of, D_digits_of.kp, D_digits_of.bindsN (fun _ _ _ _ _ _ us hl => match us, hl with | [_, _, _], _ => rfl), rfl⟩
  have c_check_written : ∀ base, CalG P w K mg base 5 3 "check_written" F_check_written := fun base => ⟨_, _, _, g_check_written D_check_written (c_check_part _) (c_is_within _) i_MOST_DIGITS, l_check_written, D_check_written.kp, D_check_written.bindsN (fun _ _ _ _ _ _ us hl => match us, hl with | [_, _, _], _ => rfl), rfl⟩
  have c_written : ∀ base, CalG P w K mg base 6 3 "written" F_written := fun base => ⟨_, _, _, g_written D_written (c_check_written _) (c_digits_of _), l_written, D_written.kp, D_written.bindsN (fun _ _ _ _ _ _ us hl => match us, hl with | [_, _, _], _ => rfl), rfl⟩
  have c_apart : ∀ base, CalG P w K mg base 2 2 "apart" F_apart := fun base => ⟨_, _, _, g_apart D_apart (c_divisor _), l_apart, D_apart.kp, D_apart.bindsN (fun _ _ _ _ _ _ us hl => match us, hl with | [_, _], _ => rfl), rfl⟩
  have c_all_digits : ∀ base, CalG P w K mg base 1 2 "all_digits" F_all_digits := fun base => ⟨_, _, _, g_all_digits D_all_digits m_tuple, l_all_digits, D_all_digits.kp, D_all_digits.bindsN (fun _ _ _ _ _ _ us hl => match us, hl with | [_, _], _ => rfl), rfl⟩
  have c_ends : ∀ base, CalG P w K mg base 5 2 "ends" F_ends := fun base => ⟨_, _, _, g_ends D_ends (c_check_part _) (c_apart _) (c_all_digits _), l_ends, D_ends.kp, D_ends.bindsN (fun _ _ _ _ _ _ us hl => match us, hl with | [_, _], _ => rfl), rfl⟩
  have c_is_ends : ∀ base, CalG P w K mg base 5 3 "is_ends" F_is_ends := fun base => ⟨_, _, _, g_is_ends D_is_ends (c_check_part _) (c_is_tuple _) (c_is_integer _) (c_divisor _) (c_apart _) (c_all_digits _) m_isinstance m_str i_MOST_JUDGED m_all, l_is_ends, D_is_ends.kp, D_is_ends.bindsN (fun _ _ _ _ _ _ us hl => match us, hl with | [_, _, _], _ => rfl), rfl⟩
  have c_back_pairs : ∀ base, CalG P w K mg base 4 2 "back_pairs" F_back_pairs := fun base => ⟨_, _, _, g_back_pairs D_back_pairs (c_check_base _) (c_is_within _) (c_apart _) i_MOST_NUMBER m_tuple m_range, l_back_pairs, D_back_pairs.kp, D_back_pairs.bindsN (fun _ _ _ _ _ _ us hl => match us, hl with | [_, _], _ => rfl), rfl⟩
  have c__law_hand : ∀ base, CalG P w K mg base 1 1 "_law_hand" F__law_hand := fun base => ⟨_, _, _, g__law_hand D__law_hand m_abs m_int m_len, l__law_hand, D__law_hand.kp, D__law_hand.bindsN (fun _ _ _ _ _ _ us hl => match us, hl with | [_], _ => rfl), rfl⟩
  have c__law_draw : ∀ base, CalG P w K mg base 1 2 "_law_draw" F__law_draw := fun base => ⟨_, _, _, g__law_draw D__law_draw m_len m_int, l__law_draw, D__law_draw.kp, D__law_draw.bindsN (fun _ _ _ _ _ _ us hl => match us, hl with | [_, _], _ => rfl), rfl⟩
  have c__law_some : ∀ base, CalG P w K mg base 2 2 "_law_some" F__law_some := fun base => ⟨_, _, _, g__law_some D__law_some (c__law_draw _) m_len, l__law_some, D__law_some.kp, D__law_some.bindsN (fun _ _ _ _ _ _ us hl => match us, hl with | [_, _], _ => rfl), rfl⟩
  have c__law_is : ∀ base, CalG P w K mg base 9 2 "_law_is" F__law_is := fun base => ⟨_, _, _, g__law_is D__law_is l__law_is m_isinstance m_list m_tuple m_all m_zip m_len m_dict m_bool m_str m_int 8, l__law_is, D__law_is.kp, D__law_is.bindsN (fun _ _ _ _ _ _ us hl => match us, hl with | [_, _], _ => rfl), rfl⟩
  have c__law_deep : ∀ base, CalG P w K mg base 1 1 "_law_deep" F__law_deep := fun base => ⟨_, _, _, g__law_deep D__law_deep m_range, l__law_deep, D__law_deep.kp, D__law_deep.bindsN (fun _ _ _ _ _ _ us hl => match us, hl with | [_], _ => rfl), rfl⟩
  have c__law_low : ∀ base, CalG P w K mg base 1 2 "_law_low" F__law_low := fun base => ⟨_, _, _, g__law_low D__law_low m_abs m_int, l__law_low, D__law_low.kp, D__law_low.bindsN (fun _ _ _ _ _ _ us hl => match us, hl with | [_, _], _ => rfl), rfl⟩
  have c__law_divisor : ∀ base, CalG P w K mg base 1 2 "_law_divisor" F__law_divisor := fun base => ⟨_, _, _, g__law_divisor D__law_divisor m_int, l__law_divisor, D__law_divisor.kp, D__law_divisor.bindsN (fun _ _ _ _ _ _ us hl => match us, hl with | [_, _], _ => rfl), rfl⟩
  have c__law_x : ∀ base, CalG P w K mg base 3 1 "_law_x" F__law_x := fun base => ⟨_, _, _, g__law_x D__law_x (c__law_some _) (c__law_draw _) (c__law_low _), l__law_x, D__law_x.kp, D__law_x.bindsN (fun _ _ _ _ _ _ us hl => match us, hl with | [_], _ => rfl), rfl⟩
  have c__law_stay : ∀ base, CalG P w K mg base 2 2 "_law_stay" F__law_stay := fun base => ⟨_, _, _, g__law_stay D__law_stay (c__law_divisor _), l__law_stay, D__law_stay.kp, D__law_stay.bindsN (fun _ _ _ _ _ _ us hl => match us, hl with | [_, _], _ => rfl), rfl⟩
  have c__law_all_digits : ∀ base, CalG P w K mg base 1 2 "_law_all_digits" F__law_all_digits := fun base => ⟨_, _, _, g__law_all_digits D__law_all_digits m_int m_tuple, l__law_all_digits, D__law_all_digits.kp, D__law_all_digits.bindsN (fun _ _ _ _ _ _ us hl => match us, hl with | [_, _], _ => rfl), rfl⟩
  have c__law_wrong : ∀ base, CalG P w K mg base 7 4 "_law_wrong" F__law_wrong := fun base => ⟨_, _, _, g__law_wrong D__law_wrong (c__law_deep _) (c_written _) m_list, l__law_wrong, D__law_wrong.kp, D__law_wrong.bindsN (fun _ _ _ _ _ _ us hl => match us, hl with | [_, _, _, _], _ => rfl), rfl⟩
  have c__law_is_right : ∀ base, CalG P w K mg base 10 1 "_law_is_right" F__law_is_right := fun base => ⟨_, _, _, g__law_is_right D__law_is_right (c__law_x _) (c__law_draw _) (c__law_some _) (c__law_low _) (c_ends _) (c__law_stay _) (c__law_all_digits _) (c_written _) (c__law_is _) (c__law_divisor _) (c_is_ends _) (c__law_wrong _) (c_back_pairs _) m_len m_int m_isinstance m_bool m_repr m_range, l__law_is_right, D__law_is_right.kp, D__law_is_right.bindsN (fun _ _ _ _ _ _ us hl => match us, hl with | [_], _ => rfl), rfl⟩
  cases hfa.symm.trans l_law
  have b := FunD.bindsA (ps := ["script"]) D_law fun _ _ _ _ _ _ us hl => match us, hl with | [_], _ => rfl
  exact ⟨fd_law, fun s v => b s [v] rfl, fun base => g_law D_law (c__law_hand base) (c_ends base) (c_back_pairs base) (c__law_is_right base) m_all m_range⟩
abbrev R : PySem.W.OpenRow := PySem.W.OpenLaw.row PySem.Challenge.rw_fewskies_k65_whole_digits_that_end_or_st
abbrev hk : PySem.W.Hook := He.hookD 4 fa fn
def ob (s : PySem.W.SharedT) : He.AlD := He.obsDG 4 fa fn (HandSHeadRun.getT s)
theorem ob_eq (s : PySem.W.SharedT) : ob s = hk.obs s.abs := He.obsDG_eq (HandSHeadRun.getT_eq s)
def loose0 : List PySem.Str := ["is_integer", "is_within", "is_tuple", "SkyError", "NoNumber", "NoBase", "NoPart", "divisor", "reduced", "is_fraction", "LEAST_BASE", "MOST_BASE", "MOST_DIGITS", "MOST_NUMBER", "MOST_JUDGED", "check_base", "check_part", "digits_of", "check_written", "written", "apart", "all_digits", "ends", "is_ends", "back_pairs", "_law_hand", "_law_draw", "_law_some", "_law_is", "_law_deep"]
def loose1 : List PySem.Str := ["_law_low", "_law_divisor", "_law_x", "_law_stay", "_law_all_digits", "_law_wrong", "_law_is_right"]
def loose : List PySem.Str := loose0 ++ loose1
theorem run (w : World) : HandSHeadRun.RunEq R (PySem.W.view R.prog [42]) hk ob 4000 loose w := by
  intro os
  kernel_rfl
end W
open PySem PySem.W PySem.Calls PyProof.Rows
theorem law_of (hF : ∀ ns : List Int, ns.length ≤ 63 → (∀ z ∈ ns, Builtin.Int.intBits z ≤ 1048576) → ∃ m, W.F_law [.frl (ns.map DL.D.int)] [] = .ok (.val (.bl true)) m) : PySem.Challenge.rw_fewskies_k65_whole_digits_that_end_or_st.Holds := by
  w_on; o_law
  refine HandSHeadRun.head_any (r := OpenLaw.row PySem.Challenge.rw_fewskies_k65_whole_digits_that_end_or_st) (q := view (OpenLaw.row PySem.Challenge.rw_fewskies_k65_whole_digits_that_end_or_st).prog [42]) (H := W.hk) (ob := W.ob) (M := 4000) (loose := W.loose) (d := HandSHeadRun.topDef (OpenLaw.row PySem.Challenge.rw_fewskies_k65_whole_digits_that_end_or_st).prog 42) (kwd := []) W.ob_eq
    (by kernel_rfl) (fun s => by kernel_rfl) W.run (by kernel_rfl) (by kernel_rfl) (by kernel_rfl) (by rfl) (by first | assumption | decide +kernel) (by decide +kernel) ⟨rfl, rfl, rfl, rfl, rfl, by decide +kernel⟩ ?hw ?hc
  case hw => w_witness2
  case hc =>
    refine DL.walk_ofD (l := PySem.Challenge.rw_fewskies_k65_whole_digits_that_end_or_st) (n := 63) (k := 11) (x := "script") (F := W.F_law) rfl (by decide) (by kernel_rfl) ⟨rfl, by decide, by decide⟩ hF ?F
    intro w mg fa h Y G hmg0
    obtain ⟨K, KX, c⟩ := Y
    have hmg : mg ("law" : PySem.Str) = some (.ref fa) := by
      have e : (HandSHeadRun.topDef (OpenLaw.row PySem.Challenge.rw_fewskies_k65_whole_digits_that_end_or_st).prog 42).name = ("law" : PySem.Str) := by kernel_rfl
      rw [← e]
      exact hmg0
    obtain ⟨fd, hb, hF⟩ := W.facts (P := (PySem.Challenge.rw_fewskies_k65_whole_digits_that_end_or_st).prog) (w := w) KX G hmg c
    exact ⟨K, fd, KX, hb, fun base _ _ => hF base⟩

theorem PySem.Challenge.cw_fewskies_k65_whole_digits_that_end_or_st_holds : PySem.Challenge.rw_fewskies_k65_whole_digits_that_end_or_st.Holds := by
  exact law_of fun ns _ _ => W.p_law ns
