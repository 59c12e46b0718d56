import PyProof.Rows.All
import PySem.Challenge.RW_neversure_k01_forms_of_any_values
import Wide.All
import OpenK.AllK
import Wide.FinOn
import HandS.ForMost
import HandS.ForExc
import HandS.Wide
import HandS.TupAny
import HandS.TupMul
import HandS.TupLe
import HandS.Deep
import HandS.Flow
import HandS.Style
import HandS.List
import HandS.Walk
import HandS.IsInst
import HandS.Text
import HandS.TupLen
import HandS.SortInts
import HandS.Comp
import HandS.Iter
import HandS.Zip
import HandS.DictComp
import HandS.Exc
import HandS.ExcOwn
import HandS.WordsExc
import HandS.Defaults
import HandS.Small
import HandS.WordsList
import KE.SortData
import PyProof.TupleOfSeq
import KE.GoesZip
import KE.KItemsList
import HandS.Zip0
import PyProof.ListNew
import KE.GoesMore
import HandS.ListItems
import HandS.HeadEnd
import HandS.Head0
import HandS.Head1
import HandS.Head2
import HandS.HeadHook1
import HandS.HeadHook2
import HandS.HeadHook3
import HandS.HeadHook4
import HandS.Ends
section
set_option Elab.async false
set_option linter.all false
set_option maxRecDepth 100000
set_option maxHeartbeats 4000000
set_option autoImplicit false
namespace NV
open PySem PySem.Spec L2

/-! ### data, objects, results -/
inductive D where
  | non | bl (b : Bool) | int (i : Int) | str (s : Str) | tup (xs : List D) | lst (xs : List D) | ref (n : Nat) | dcK (kvs : List (Key × D)) | dcT (kvs : List (List Key × D)) | frl (xs : List D) | frt (xs : List D) | ty (n : String)
inductive MO where
  | lst (xs : List D) | dcK (kvs : List (Key × D)) | dcT (kvs : List (List Key × D))
  /-- dicts that have been locked -/
  | lkK (kvs : List (Key × D)) | lkT (kvs : List (List Key × D))
abbrev MS := List MO
abbrev Nv := List (Option D)
structure Ex where
  cls : Nat
  fs : List (Str × D)
inductive Res (α : Type) where
  | ok (a : α) (M : MS) | exc (x : Ex) (M : MS) | fail

def SOk (s : Str) : Prop := PyData.strOk s = true ∧ s.length ≤ sizeLine

/-- addresses: of the boxed objects, by their numbers; of what is being made around -/
structure RS where
  ids : List Addr
  z : List Addr
def RS.all (ρ : RS) : List Addr := ρ.ids ++ ρ.z

def keyD : D → Option Key
  | .int i => some (.inl i)
  | .str s => some (.inr s)
  | _ => none
def keysD : List D → Option (List Key)
  | [] => some []
  | d :: r => (keyD d).bind fun k => (keysD r).map fun ks => k :: ks
def keyT : D → Option (List Key)
  | .tup xs => keysD xs
  | _ => none

section
variable (K : PySem.W.Frag) (H : Hp) (ρ : RS)
/-- a list that nobody changes any more -/
def LsR (a : Addr) (vs : List V) : Prop := H a = some (.lst vs) ∧ a ∉ ρ.all
/-- one that is only read (the script) -/
def FrR (a : Addr) (vs : List V) : Prop := (Rd H a (.lst vs) ∧ a ∉ ρ.all) ∨
  ∃ (o : Obj) (its : Array Value) (n : Nat), K.lookup a = some o ∧ o.cls = .type "list" ∧ o.dict = none ∧ o.data = .seq its n ∧ its.size ≤ sizeLine ∧ Vals vs its.toList
mutual
def Rel : D → V → Prop
  | .non, v => v = .non
  | .bl b, v => v = .bl b
  | .int i, v => v = .int i
  | .str s, v => v = .str s ∧ SOk s
  | .ty n, v => v = .ty n
  | .tup xs, v => ∃ a vs, v = .ref a ∧ H a = some (.tup vs) ∧ Rels xs vs
  | .frt xs, v => ∃ a vs, v = .ref a ∧ SqT K H a vs ∧ Rels xs vs
  | .lst xs, v => ∃ a vs, v = .ref a ∧ LsR H ρ a vs ∧ Rels xs vs
  | .frl xs, v => ∃ a vs, v = .ref a ∧ FrR K H ρ a vs ∧ Rels xs vs
  | .ref n, v => ∃ a, v = .ref a ∧ ρ.ids[n]? = some a
  | .dcK kvs, v => ∃ a us, v = .ref a ∧ a ∉ ρ.all ∧ Rd H a (.dK us) ∧ RelK kvs us
  | .dcT kvs, v => ∃ a us, v = .ref a ∧ a ∉ ρ.all ∧ Rd H a (.dT us) ∧ RelT kvs us
def Rels : List D → List V → Prop
  | [], vs => vs = []
  | x :: xs, vs => ∃ v r, vs = v :: r ∧ Rel x v ∧ Rels xs r
def RelK : List (Key × D) → List (Key × V) → Prop
  | [], us => us = []
  | (k, d) :: kvs, us => ∃ v r, us = (k, v) :: r ∧ (∀ s, k = .inr s → SOk s) ∧ Rel d v ∧ RelK kvs r
def RelT : List (List Key × D) → List (List Key × V) → Prop
  | [], us => us = []
  | (k, d) :: kvs, us => ∃ v r, us = (k, v) :: r ∧ (∀ s, (Sum.inr s : Key) ∈ k → SOk s) ∧ Rel d v ∧ RelT kvs r
end
/-- a boxed object -/
def ObR (a : Addr) : MO → Prop
  | .lst xs => ∃ vs, H a = some (.lst vs) ∧ Rels K H ρ xs vs
  | .dcK kvs => ∃ us, H a = some (.dK us) ∧ RelK K H ρ kvs us
  | .dcT kvs => ∃ us, H a = some (.dT us) ∧ RelT K H ρ kvs us
  | .lkK kvs => ∃ us o, H a = some (.frz o (.dK us)) ∧ RelK K H ρ kvs us
  | .lkT kvs => ∃ us o, H a = some (.frz o (.dT us)) ∧ RelT K H ρ kvs us
/-- what may stand at a boxed object's place -/
def Bx : Option HO → Prop
  | some (.frz _ (.dK _)) => True
  | some (.frz _ (.dT _)) => True
  | o => Mut o
structure HR (M : MS) : Prop where
  nd : ρ.all.Nodup
  len : ρ.ids.length = M.length
  at_ : ∀ (n : Nat) (o : MO), M[n]? = some o → ∀ a, ρ.ids[n]? = some a → ObR K H ρ a o
  zl : ∀ a ∈ ρ.z, Bx (H a)
end

def IsDc : HO → Prop
  | .dK _ => True
  | .dT _ => True
  | _ => False
/-- a thing that stands yet (a dict may have been locked) -/
def Kp (o : HO) (h : Option HO) : Prop := h = some o ∨ (IsDc o ∧ ∃ ob, h = some (.frz ob o))
/-- what stood for something does still -/
structure Ext (H : Hp) (ρ : RS) (H' : Hp) (ρ' : RS) : Prop where
  more : ∃ m, ρ'.ids = ρ.ids ++ m
  new : ∀ p ∈ ρ'.all, p ∈ ρ.all ∨ H p = none
  keep : ∀ a o, H a = some o → a ∉ ρ.all → Kp o (H' a)
/-- from one state to a later one -/
structure Step (H : Hp) (ρ : RS) (H' : Hp) (ρ' : RS) : Prop extends Ext H ρ H' ρ' where
  z : ρ'.z = ρ.z
  zk : ∀ a ∈ ρ.z, H' a = H a

section
variable {K : PySem.W.Frag} {H H' H1 H2 : Hp} {ρ ρ' ρ1 ρ2 : RS} {M M' M1 : MS} {d : D} {v : V} {xs : List D} {vs : List V} {a : Addr}
theorem ObR.mut {o : MO} (h : ObR K H ρ a o) : Bx (H a) := by
  cases o with
  | lkK kvs => obtain ⟨vs, ob, e, _⟩ := h; rw [e]; trivial
  | lkT kvs => obtain ⟨vs, ob, e, _⟩ := h; rw [e]; trivial
  | lst xs => obtain ⟨vs, e, _⟩ := h; rw [e]; trivial
  | dcK kvs => obtain ⟨vs, e, _⟩ := h; rw [e]; trivial
  | dcT kvs => obtain ⟨vs, e, _⟩ := h; rw [e]; trivial
theorem HR.mut (h : HR K H ρ M) (ha : a ∈ ρ.all) : Bx (H a) := by
  rcases List.mem_append.mp ha with ha | ha
  · obtain ⟨n, hn, e⟩ := List.getElem_of_mem ha
    have hM : n < M.length := by rw [← h.len]; exact hn
    exact (h.at_ n M[n] (List.getElem?_eq_getElem hM) a (by rw [List.getElem?_eq_getElem hn, e])).mut
  · exact h.zl a ha
theorem mut_some {o : Option HO} (h : Bx o) : o ≠ none := fun e => by rw [e] at h; exact h
theorem HR.nn (h : HR K H ρ M) (ha : a ∈ ρ.all) : H a ≠ none := mut_some (h.mut ha)
theorem rd_some {u : HO} (r : Rd H a u) : H a ≠ none := by
  rcases r with r | ⟨o, r⟩ <;> rw [r] <;> exact fun e => nomatch e
theorem rd_not_mut {ys : List V} (r : Rd H a (.tup ys)) : ¬ Bx (H a) := by
  rcases r with r | ⟨o, r⟩ <;> rw [r] <;> exact fun e => e
theorem Kp.nn {o : HO} {h : Option HO} (k : Kp o h) : h ≠ none := by
  rcases k with k | ⟨_, _, k⟩ <;> rw [k] <;> exact fun e => nomatch e
theorem Kp.at {o : HO} {h : Option HO} (k : Kp o h) (n : ¬ IsDc o) : h = some o := by
  rcases k with k | ⟨d, _⟩
  · exact k
  · exact absurd d n
theorem Ext.refl (H : Hp) (ρ : RS) : Ext H ρ H ρ := ⟨⟨[], by simp⟩, fun _ h => .inl h, fun _ _ e _ => .inl e⟩
theorem Step.refl (H : Hp) (ρ : RS) : Step H ρ H ρ := ⟨Ext.refl H ρ, rfl, fun _ _ => rfl⟩
theorem Ext.trans (h1 : Ext H ρ H1 ρ1) (h2 : Ext H1 ρ1 H2 ρ2) : Ext H ρ H2 ρ2 := by
  obtain ⟨⟨m1, e1⟩, n1, k1⟩ := h1
  obtain ⟨⟨m2, e2⟩, n2, k2⟩ := h2
  refine ⟨⟨m1 ++ m2, by rw [e2, e1, List.append_assoc]⟩, fun p hp => ?_, fun a o e hn => ?_⟩
  · rcases n2 p hp with h | h
    · exact n1 p h
    · cases q : H p with
      | none => exact .inr rfl
      | some o =>
        by_cases hi : p ∈ ρ.all
        · exact .inl hi
        · exact absurd h (k1 p o q hi).nn
  · have hm' : a ∉ ρ1.all := fun hm => by
      rcases n1 a hm with h | h
      · exact hn h
      · rw [h] at e; cases e
    rcases k1 a o e hn with q | ⟨d, ob, q⟩
    · exact k2 a o q hm'
    · rcases k2 a _ q hm' with r | ⟨d', _⟩
      · exact .inr ⟨d, ob, r⟩
      · exact d'.elim
theorem Step.trans (h1 : Step H ρ H1 ρ1) (h2 : Step H1 ρ1 H2 ρ2) (r1 : HR K H1 ρ1 M1) : Step H ρ H2 ρ2 :=
  ⟨h1.toExt.trans h2.toExt, h2.z.trans h1.z, fun a ha => (h2.zk a (by rw [h1.z]; exact ha)).trans (h1.zk a ha)⟩
theorem Ext.rd {u : HO} (s : Ext H ρ H' ρ') (r : Rd H a u) (h : a ∉ ρ.all) : Rd H' a u := by
  rcases r with r | ⟨o, r⟩
  · rcases s.keep _ _ r h with q | ⟨_, ob, q⟩
    · exact .inl q
    · exact .inr ⟨ob, q⟩
  · exact .inr ⟨o, (s.keep _ _ r h).at fun d => d⟩
theorem Ext.notin (s : Ext H ρ H' ρ') (hs : H a ≠ none) (h : a ∉ ρ.all) : a ∉ ρ'.all := fun hm => (s.new a hm).elim h hs
theorem notin_ids (h : a ∉ ρ.all) : a ∉ ρ.ids := fun z => h (List.mem_append_left _ z)
theorem Ext.lsR (s : Ext H ρ H' ρ') (h : LsR H ρ a vs) : LsR H' ρ' a vs :=
  ⟨(s.keep _ _ h.1 h.2).at fun d => d, s.notin (by rw [h.1]; exact fun e => nomatch e) h.2⟩
theorem Ext.frR (s : Ext H ρ H' ρ') (h : FrR K H ρ a vs) : FrR K H' ρ' a vs := by
  rcases h with ⟨r, n⟩ | h
  · exact .inl ⟨s.rd r n, s.notin (rd_some r) n⟩
  · exact .inr h
theorem Ext.sqT (s : Ext H ρ H' ρ') (hr : HR K H ρ M) (h : SqT K H a vs) : SqT K H' a vs := by
  rcases h with r | h
  · exact .inl (s.rd r fun z => rd_not_mut r (hr.mut z))
  · exact .inr h
mutual
theorem Rel.mono (s : Ext H ρ H' ρ') (hr : HR K H ρ M) : ∀ (d : D) (v : V), Rel K H ρ d v → Rel K H' ρ' d v
  | .non, v, h => h
  | .bl b, v, h => h
  | .int i, v, h => h
  | .str x, v, h => h
  | .ty n, v, h => h
  | .tup xs, v, h => by
    obtain ⟨a, vs, e, q, r⟩ := h
    exact ⟨a, vs, e, (s.keep _ _ q fun z => by have m := hr.mut z; rw [q] at m; exact m).at fun d => d, Rels.mono s hr xs vs r⟩
  | .frt xs, v, h => by
    obtain ⟨a, vs, e, q, r⟩ := h
    exact ⟨a, vs, e, s.sqT hr q, Rels.mono s hr xs vs r⟩
  | .lst xs, v, h => by
    obtain ⟨a, vs, e, q, r⟩ := h
    exact ⟨a, vs, e, s.lsR q, Rels.mono s hr xs vs r⟩
  | .frl xs, v, h => by
    obtain ⟨a, vs, e, q, r⟩ := h
    exact ⟨a, vs, e, s.frR q, Rels.mono s hr xs vs r⟩
  | .ref n, v, h => by
    obtain ⟨a, e, q⟩ := h
    obtain ⟨m, e1⟩ := s.more
    refine ⟨a, e, ?_⟩
    rw [e1, List.getElem?_append_left (List.getElem?_eq_some_iff.mp q).1]
    exact q
  | .dcK kvs, v, h => by
    obtain ⟨a, us, e, n, r, t⟩ := h
    exact ⟨a, us, e, s.notin (rd_some r) n, s.rd r n, RelK.mono s hr kvs us t⟩
  | .dcT kvs, v, h => by
    obtain ⟨a, us, e, n, r, t⟩ := h
    exact ⟨a, us, e, s.notin (rd_some r) n, s.rd r n, RelT.mono s hr kvs us t⟩
theorem Rels.mono (s : Ext H ρ H' ρ') (hr : HR K H ρ M) : ∀ (xs : List D) (vs : List V), Rels K H ρ xs vs → Rels K H' ρ' xs vs
  | [], vs, h => h
  | x :: xs, vs, h => by
    obtain ⟨v, r, e, h1, h2⟩ := h
    exact ⟨v, r, e, Rel.mono s hr x v h1, Rels.mono s hr xs r h2⟩
theorem RelK.mono (s : Ext H ρ H' ρ') (hr : HR K H ρ M) : ∀ (kvs : List (Key × D)) (us : List (Key × V)), RelK K H ρ kvs us → RelK K H' ρ' kvs us
  | [], us, h => h
  | (k, d) :: kvs, us, h => by
    obtain ⟨v, r, e, ho, h1, h2⟩ := h
    exact ⟨v, r, e, ho, Rel.mono s hr d v h1, RelK.mono s hr kvs r h2⟩
theorem RelT.mono (s : Ext H ρ H' ρ') (hr : HR K H ρ M) : ∀ (kvs : List (List Key × D)) (us : List (List Key × V)), RelT K H ρ kvs us → RelT K H' ρ' kvs us
  | [], us, h => h
  | (k, d) :: kvs, us, h => by
    obtain ⟨v, r, e, ho, h1, h2⟩ := h
    exact ⟨v, r, e, ho, Rel.mono s hr d v h1, RelT.mono s hr kvs r h2⟩
end
theorem ObR.mono {o : MO} (s : Ext H ρ H' ρ') (hr : HR K H ρ M) (e : H' a = H a) (h : ObR K H ρ a o) : ObR K H' ρ' a o := by
  cases o with
  | lkK kvs => obtain ⟨us, ob, e1, r⟩ := h; exact ⟨us, ob, e.trans e1, RelK.mono s hr kvs us r⟩
  | lkT kvs => obtain ⟨us, ob, e1, r⟩ := h; exact ⟨us, ob, e.trans e1, RelT.mono s hr kvs us r⟩
  | lst xs => obtain ⟨vs, e1, r⟩ := h; exact ⟨vs, e.trans e1, Rels.mono s hr xs vs r⟩
  | dcK kvs => obtain ⟨us, e1, r⟩ := h; exact ⟨us, e.trans e1, RelK.mono s hr kvs us r⟩
  | dcT kvs => obtain ⟨us, e1, r⟩ := h; exact ⟨us, e.trans e1, RelT.mono s hr kvs us r⟩
theorem Ext.ext (k : ∀ a o, H a = some o → H' a = some o) : Ext H ρ H' ρ := ⟨⟨[], by simp⟩, fun _ h => .inl h, fun a o e _ => .inl (k a o e)⟩
/-- nothing boxed is changed, nothing boxed is new -/
theorem HR.ext (hr : HR K H ρ M) (k : ∀ a o, H a = some o → H' a = some o) : HR K H' ρ M := by
  have s : Ext H ρ H' ρ := Ext.ext k
  have same : ∀ a ∈ ρ.all, H' a = H a := fun a ha => by
    cases q : H a with
    | none => exact absurd q (hr.nn ha)
    | some o => exact k a o q
  exact ⟨hr.nd, hr.len, fun n o e a q => (hr.at_ n o e a q).mono s hr (same a (List.mem_append_left _ (List.mem_of_getElem? q))), fun a ha => by
    rw [same a (List.mem_append_right _ ha)]
    exact hr.zl a ha⟩
theorem Step.ext (hr : HR K H ρ M) (k : ∀ a o, H a = some o → H' a = some o) : Step H ρ H' ρ := ⟨Ext.ext k, rfl, fun a ha => by
  cases q : H a with
  | none => exact absurd q (hr.nn (List.mem_append_right _ ha))
  | some o => exact k a o q⟩
theorem keep_new {p : Addr} {o : HO} (h : H p = none) : ∀ a u, H a = some u → (upd H p o) a = some u := fun a u e => by
  rw [upd_ne (ne_of_none e h)]
  exact e
/-- a new tuple -/
theorem Rel.tup_new {p : Addr} (h : H p = none) (hr : HR K H ρ M) (r : Rels K H ρ xs vs) : Rel K (upd H p (.tup vs)) ρ (.tup xs) (.ref p) :=
  ⟨p, vs, rfl, upd_same, Rels.mono (Ext.ext (keep_new h)) hr xs vs r⟩
theorem HR.fresh {p : Addr} (hr : HR K H ρ M) (h : H p = none) : p ∉ ρ.all := fun z => hr.nn z h
theorem Rel.lst_new {p : Addr} (h : H p = none) (hr : HR K H ρ M) (r : Rels K H ρ xs vs) : Rel K (upd H p (.lst vs)) ρ (.lst xs) (.ref p) :=
  ⟨p, vs, rfl, ⟨upd_same, hr.fresh h⟩, Rels.mono (Ext.ext (keep_new h)) hr xs vs r⟩
theorem LsR.sqL (h : LsR H ρ a vs) : SqL K H a vs := .inl (.inl h.1)
theorem FrR.sqL (h : FrR K H ρ a vs) : SqL K H a vs := by
  rcases h with ⟨r, _⟩ | h
  · exact .inl r
  · exact .inr h
theorem Rels.length : ∀ {xs : List D} {vs : List V}, Rels K H ρ xs vs → xs.length = vs.length
  | [], vs, h => by rw [show vs = [] from h]; rfl
  | x :: xs, vs, h => by
    obtain ⟨v, r, rfl, _, h2⟩ := h
    simp [Rels.length h2]
theorem Rels.get : ∀ {xs : List D} {vs : List V} {i : Nat} {x : D}, Rels K H ρ xs vs → xs[i]? = some x → ∃ v, vs[i]? = some v ∧ Rel K H ρ x v
  | [], vs, i, x, _, e => by simp at e
  | y :: xs, vs, 0, x, h, e => by
    obtain ⟨v, r, rfl, h1, _⟩ := h
    simp at e; subst e
    exact ⟨v, rfl, h1⟩
  | y :: xs, vs, i + 1, x, h, e => by
    obtain ⟨v, r, rfl, _, h2⟩ := h
    obtain ⟨u, hu, hr⟩ := Rels.get (i := i) h2 (by simpa using e)
    exact ⟨u, by simpa using hu, hr⟩
theorem Rels.append : ∀ {xs ys : List D} {vs ws : List V}, Rels K H ρ xs vs → Rels K H ρ ys ws → Rels K H ρ (xs ++ ys) (vs ++ ws)
  | [], ys, vs, ws, h, q => by rw [show vs = [] from h]; exact q
  | x :: xs, ys, vs, ws, h, q => by
    obtain ⟨v, r, rfl, h1, h2⟩ := h
    exact ⟨v, r ++ ws, rfl, h1, Rels.append h2 q⟩
theorem Rels.take : ∀ {xs : List D} {vs : List V} (n : Nat), Rels K H ρ xs vs → Rels K H ρ (xs.take n) (vs.take n)
  | xs, vs, 0, _ => by simp [Rels]
  | [], vs, n + 1, h => by rw [show vs = [] from h]; simp [Rels]
  | x :: xs, vs, n + 1, h => by
    obtain ⟨v, r, rfl, h1, h2⟩ := h
    exact ⟨v, r.take n, rfl, h1, Rels.take n h2⟩
theorem Rels.drop : ∀ {xs : List D} {vs : List V} (n : Nat), Rels K H ρ xs vs → Rels K H ρ (xs.drop n) (vs.drop n)
  | xs, vs, 0, h => h
  | [], vs, n + 1, h => by rw [show vs = [] from h]; simp [Rels]
  | x :: xs, vs, n + 1, h => by
    obtain ⟨v, r, rfl, h1, h2⟩ := h
    exact Rels.drop n h2
theorem Rels.set {x : D} {v : V} (q : Rel K H ρ x v) : ∀ {xs : List D} {vs : List V} (i : Nat), Rels K H ρ xs vs → Rels K H ρ (xs.set i x) (vs.set i v)
  | [], vs, _, h => by rw [show vs = [] from h]; simp [Rels]
  | y :: xs, vs, 0, h => by
    obtain ⟨w, r, rfl, _, h2⟩ := h
    exact ⟨v, r, rfl, q, h2⟩
  | y :: xs, vs, i + 1, h => by
    obtain ⟨w, r, rfl, h1, h2⟩ := h
    exact ⟨w, r.set i v, rfl, h1, Rels.set q i h2⟩
theorem Rels.one (q : Rel K H ρ d v) : Rels K H ρ [d] [v] := ⟨v, [], rfl, q, rfl⟩
theorem Rels.nil : Rels K H ρ [] [] := rfl
theorem Rels.cons (q : Rel K H ρ d v) (r : Rels K H ρ xs vs) : Rels K H ρ (d :: xs) (v :: vs) := ⟨v, vs, rfl, q, r⟩
theorem Rels.reverse : ∀ {xs : List D} {vs : List V}, Rels K H ρ xs vs → Rels K H ρ xs.reverse vs.reverse
  | [], vs, h => by rw [show vs = [] from h]; simp [Rels]
  | x :: xs, vs, h => by
    obtain ⟨v, r, rfl, h1, h2⟩ := h
    rw [List.reverse_cons, List.reverse_cons]
    exact (Rels.reverse h2).append (Rels.one h1)
end

/-! ### plain data -/
mutual
def D.p : D → PyData
  | .non => .none
  | .bl b => .bool b
  | .int i => .int i
  | .str s => .str s
  | .tup xs => .tuple (ps xs)
  | .lst xs => .list (ps xs)
  | .frl xs => .list (ps xs)
  | .frt xs => .tuple (ps xs)
  | .ref _ => .none
  | .dcK _ => .none
  | .dcT _ => .none
  | .ty _ => .none
def ps : List D → List PyData
  | [] => []
  | x :: xs => D.p x :: ps xs
end
mutual
def D.plain : D → Bool
  | .tup xs => plains xs
  | .lst xs => plains xs
  | .frl xs => plains xs
  | .frt xs => plains xs
  | .ref _ => false
  | .dcK _ => false
  | .dcT _ => false
  | .ty _ => false
  | .non => true
  | .bl _ => true
  | .int _ => true
  | .str _ => true
def plains : List D → Bool
  | [] => true
  | x :: xs => D.plain x && plains xs
end
theorem ps_map : ∀ xs : List D, ps xs = xs.map D.p
  | [] => rfl
  | x :: xs => by rw [ps, ps_map xs]; rfl
theorem plains_all : ∀ xs : List D, plains xs = xs.all D.plain
  | [] => rfl
  | x :: xs => by rw [plains, plains_all xs]; rfl
section
variable {K : PySem.W.Frag} {H : Hp} {ρ : RS}
mutual
theorem rel_dp : ∀ (d : D) (v : V), d.plain = true → Rel K H ρ d v → Dp K H v d.p ∧ d.p.canLay0 = true
  | .non, v, _, h => by rw [show v = _ from h]; exact ⟨.non, by simp [D.p, PyData.canLay0]⟩
  | .bl b, v, _, h => by rw [show v = _ from h]; exact ⟨.bl b, by simp [D.p, PyData.canLay0]⟩
  | .int i, v, _, h => by rw [show v = _ from h]; exact ⟨.int i, by simp [D.p, PyData.canLay0]⟩
  | .str s, v, _, h => by
    obtain ⟨e, ho⟩ := h
    rw [e]
    exact ⟨.str s, by simp [D.p, PyData.canLay0, ho.1]⟩
  | .tup xs, v, hp, h => by
    obtain ⟨a, vs, rfl, q, r⟩ := h
    obtain ⟨h1, h2⟩ := rel_dps xs vs (by simpa [D.plain] using hp) r
    exact ⟨.tup (SqT.of q) h1, by simpa [D.p, PyData.canLay0] using h2⟩
  | .frt xs, v, hp, h => by
    obtain ⟨a, vs, rfl, q, r⟩ := h
    obtain ⟨h1, h2⟩ := rel_dps xs vs (by simpa [D.plain] using hp) r
    exact ⟨.tup q h1, by simpa [D.p, PyData.canLay0] using h2⟩
  | .lst xs, v, hp, h => by
    obtain ⟨a, vs, rfl, q, r⟩ := h
    obtain ⟨h1, h2⟩ := rel_dps xs vs (by simpa [D.plain] using hp) r
    exact ⟨.lst q.sqL h1, by simpa [D.p, PyData.canLay0] using h2⟩
  | .frl xs, v, hp, h => by
    obtain ⟨a, vs, rfl, q, r⟩ := h
    obtain ⟨h1, h2⟩ := rel_dps xs vs (by simpa [D.plain] using hp) r
    exact ⟨.lst q.sqL h1, by simpa [D.p, PyData.canLay0] using h2⟩
  | .ref n, v, hp, _ => by simp [D.plain] at hp
  | .dcK kvs, v, hp, _ => by simp [D.plain] at hp
  | .dcT kvs, v, hp, _ => by simp [D.plain] at hp
  | .ty n, v, hp, _ => by simp [D.plain] at hp
theorem rel_dps : ∀ (xs : List D) (vs : List V), plains xs = true → Rels K H ρ xs vs → DpAll K H vs (ps xs) ∧ PyData.canLayAll0 (ps xs) = true
  | [], vs, _, h => by rw [show vs = _ from h]; exact ⟨.nil, by simp [ps, PyData.canLayAll0]⟩
  | x :: xs, vs, hp, h => by
    obtain ⟨v, r, rfl, h1, h2⟩ := h
    have hp' : x.plain = true ∧ plains xs = true := by simpa [plains] using hp
    obtain ⟨a1, a2⟩ := rel_dp x v hp'.1 h1
    obtain ⟨b1, b2⟩ := rel_dps xs r hp'.2 h2
    exact ⟨.cons a1 b1, by simp [ps, PyData.canLayAll0, a2, b2]⟩
end
end
end NV
end
section
set_option Elab.async false
set_option linter.all false
set_option maxRecDepth 100000
set_option maxHeartbeats 4000000
set_option autoImplicit false
namespace NV
open PySem PySem.Spec L2

/-! ### readings by functions on data -/
structure GW where
  K : PySem.W.Frag
  cl : List Addr
  W : WX
abbrev Fx (α : Type) := Nv → MS → Res α
def ER (K : PySem.W.Frag) (H : Hp) (ρ : RS) (η : Nv) (σ : L2.St) : Prop := η.length = σ.length ∧ ∀ (i : Nat) (d : D), η[i]? = some (some d) → ∃ v, σ[i]? = some (some v) ∧ Rel K H ρ d v
def RelF (K : PySem.W.Frag) (H : Hp) (ρ : RS) : List (Str × D) → List (Str × V) → Prop
  | [], us => us = []
  | (f, d) :: fs, us => ∃ v r, us = (f, v) :: r ∧ Rel K H ρ d v ∧ RelF K H ρ fs r
def XR (K : PySem.W.Frag) (cl : List Addr) (H : Hp) (ρ : RS) (x : Ex) (cls : Value) (dd : Option Addr) : Prop :=
  (∃ a, cl[x.cls]? = some a ∧ cls = .ref a) ∧ ((x.fs = [] ∧ dd = none) ∨ ∃ d fs, dd = some d ∧ H d = some (.xd fs) ∧ RelF K H ρ x.fs fs)
def bindR {α β : Type} (r : Res α) (k : α → MS → Res β) : Res β := match r with
  | .ok a M => k a M
  | .exc x M => .exc x M
  | .fail => .fail
/-- what is wanted behind an evaluation -/
def Post {α : Type} (g : GW) (σ : L2.St) (H : Hp) (ρ : RS) (P : α → MS → Hp → RS → Prop) : Res α → Prop
  | .ok a M' => ∀ H' ρ', Step H ρ H' ρ' → HR g.K H' ρ' M' → P a M' H' ρ'
  | .exc x M' => ∀ cls dd H' ρ', Step H ρ H' ρ' → HR g.K H' ρ' M' → XR g.K g.cl H' ρ' x cls dd → g.W cls dd σ H'
  | .fail => False
def tE (g : GW) (f : Fx D) : TE := fun σ H Q => ∃ ρ M η, HR g.K H ρ M ∧ ER g.K H ρ η σ ∧ Post g σ H ρ (fun d M' H' ρ' => ∀ v, Rel g.K H' ρ' d v → Q v H') (f η M)
def tT (g : GW) (f : Fx Bool) : TT := fun σ H Q => ∃ ρ M η, HR g.K H ρ M ∧ ER g.K H ρ η σ ∧ Post g σ H ρ (fun b M' H' ρ' => Q b H') (f η M)
def tA (g : GW) (f : Fx (List D)) : TA := fun σ H Q => ∃ ρ M η, HR g.K H ρ M ∧ ER g.K H ρ η σ ∧ Post g σ H ρ (fun ds M' H' ρ' => ∀ vs, Rels g.K H' ρ' ds vs → Q vs H') (f η M)
/-- a new list at p, nobody's yet -/
def PostN (g : GW) (σ : L2.St) (H : Hp) (ρ : RS) (Q : VK) : Res (List D) → Prop
  | .ok ds M' => ∀ p vs H' ids', Step H ρ H' ⟨ids', ρ.z⟩ → H p = none → HR g.K H' ⟨ids', p :: ρ.z⟩ M' → H' p = some (.lst vs) → Rels g.K H' ⟨ids', p :: ρ.z⟩ ds vs → Q (.ref p) H'
  | .exc x M' => ∀ cls dd H' ρ', Step H ρ H' ρ' → HR g.K H' ρ' M' → XR g.K g.cl H' ρ' x cls dd → g.W cls dd σ H'
  | .fail => False
def tN (g : GW) (f : Fx (List D)) : TE := fun σ H Q => ∃ ρ M η, HR g.K H ρ M ∧ ER g.K H ρ η σ ∧ PostN g σ H ρ Q (f η M)
section
variable {α β : Type} {g : GW} {σ : L2.St} {H : Hp} {ρ : RS} {M : MS}
theorem Post.mono {P P' : α → MS → Hp → RS → Prop} {r : Res α} (h : Post g σ H ρ P r) (k : ∀ a M' H' ρ', Step H ρ H' ρ' → HR g.K H' ρ' M' → P a M' H' ρ' → P' a M' H' ρ') : Post g σ H ρ P' r := by
  cases r with
  | ok a M' => exact fun H' ρ' s q => k a M' H' ρ' s q (h H' ρ' s q)
  | exc x M' => exact h
  | fail => exact h
theorem Post.from {P : α → MS → Hp → RS → Prop} {r : Res α} {H0 : Hp} {ρ0 : RS} (h : Post g σ H0 ρ0 P r) (s0 : Step H0 ρ0 H ρ) (q0 : HR g.K H ρ M) : Post g σ H ρ P r := by
  cases r with
  | ok a M' => exact fun H' ρ' s q => h H' ρ' (s0.trans s q0) q
  | exc x M' => exact fun cls dd H' ρ' s q x => h cls dd H' ρ' (s0.trans s q0) q x
  | fail => exact h
theorem Post.bind {P : β → MS → Hp → RS → Prop} {r : Res α} {k : α → MS → Res β} (h : Post g σ H ρ P (bindR r k)) : Post g σ H ρ (fun a M1 H1 ρ1 => Post g σ H1 ρ1 P (k a M1)) r := by
  cases r with
  | ok a M' =>
    intro H' ρ' s q
    exact Post.from (H0 := H) (ρ0 := ρ) h s q
  | exc x M' => exact h
  | fail => exact h
theorem ER.mono {K : PySem.W.Frag} {H' : Hp} {ρ' : RS} {η : Nv} (s : Ext H ρ H' ρ') (hr : HR K H ρ M) (e : ER K H ρ η σ) : ER K H' ρ' η σ :=
  ⟨e.1, fun i d h => let ⟨v, h1, h2⟩ := e.2 i d h; ⟨v, h1, h2.mono s hr d v⟩⟩
theorem ER.set {K : PySem.W.Frag} {η : Nv} {i : Nat} {d : D} {v : V} (e : ER K H ρ η σ) (r : Rel K H ρ d v) : ER K H ρ (η.set i (some d)) (σ.set i (some v)) := by
  refine ⟨by rw [List.length_set, List.length_set]; exact e.1, fun j x h => ?_⟩
  by_cases hj : j = i
  · subst hj
    by_cases hl : j < η.length
    · rw [List.getElem?_set_self hl] at h
      cases h
      exact ⟨v, List.getElem?_set_self (by rw [← e.1]; exact hl), r⟩
    · rw [List.getElem?_eq_none (by simpa using hl)] at h; cases h
  · rw [List.getElem?_set_ne (Ne.symm hj)] at h ⊢
    exact e.2 j x h
end
theorem PE.imp {X : Cx} {e : Expr} {t t' : TE} (h : PE X e t) (k : ∀ σ H Q, t' σ H Q → t σ H Q) : PE X e t' := ⟨fun pins s σ H Q I q => h.run pins s σ H Q I (k σ H Q q)⟩
theorem PT.imp {X : Cx} {e : Expr} {t t' : TT} (h : PT X e t) (k : ∀ σ H Q, t' σ H Q → t σ H Q) : PT X e t' := ⟨fun pins s σ H Q I q => h.run pins s σ H Q I (k σ H Q q)⟩
theorem PW.imp {X : Cx} {e : Expr} {t t' : TT} (h : PW X e t) (k : ∀ σ H Q, t' σ H Q → t σ H Q) : PW X e t' := ⟨fun wh pins s σ H Q I q => h.run wh pins s σ H Q I (k σ H Q q)⟩
theorem PA.imp {X : Cx} {es : List Expr} {t t' : TA} (h : PA X es t) (k : ∀ σ H Q, t' σ H Q → t σ H Q) : PA X es t' := ⟨fun pos pins s σ H Q I q => h.run pos pins s σ H Q I (k σ H Q q)⟩
theorem PS.imp {X : Cx} {e : Stmt} {t t' : TS} (h : PS X e t) (k : ∀ D σ H, t' D σ H → t D σ H) : PS X e t' := ⟨fun pins s σ H D I q => h.run pins s σ H D I (k D σ H q)⟩
theorem PSs.imp {X : Cx} {e : List Stmt} {t t' : TS} (h : PSs X e t) (k : ∀ D σ H, t' D σ H → t D σ H) : PSs X e t' := ⟨fun pins s σ H D I q => h.run pins s σ H D I (k D σ H q)⟩

/-! ### names and constants -/
def fVar (i : Nat) : Fx D := fun η M => match η[i]? with
  | some (some d) => .ok d M
  | _ => .fail
def fC (d : D) : Fx D := fun _ M => .ok d M
section
variable {X : Cx} {g : GW}
theorem d_var {i : Nat} {x : Str} {pos : Pos} (hN : X.N[i]? = some x) (hv : Vis X.env.scope x) (hd : (x == ("__debug__" : Str)) = false) (hcd : (x == ("__classdict__" : Str)) = false) : PE X (.Name x pos) (tE g (fVar i)) := by
  refine PE.imp (pe_var hN hv hd hcd) fun σ H Q h => ?_
  obtain ⟨ρ, M, η, hr, er, h⟩ := h
  unfold fVar at h
  split at h
  · rename_i d e
    obtain ⟨v, h1, h2⟩ := er.2 i d e
    exact ⟨v, h1, h H ρ (Step.refl H ρ) hr v h2⟩
  · exact h.elim
/-- a constant: its value stands for d whatever the heap -/
theorem d_c {e : Expr} {d : D} {v : V} (h : PE X e (tC v)) (r : ∀ H ρ, Rel g.K H ρ d v) : PE X e (tE g (fC d)) := by
  refine PE.imp h fun σ H Q h => ?_
  obtain ⟨ρ, M, η, hr, er, h⟩ := h
  exact h H ρ (Step.refl H ρ) hr v (r H ρ)
end

/-! ### operators by values -/
/-- what an operator's rule is to bear: of values for x, y it asks no more than a wish for whatever stands for z -/
def Op2 (K : PySem.W.Frag) (φ : D → D → MS → Option D) (r : R2) : Prop := ∀ x y z M H ρ u v (Q : VK), φ x y M = some z → HR K H ρ M → Rel K H ρ x u → Rel K H ρ y v →
  (∀ H' w, (∀ a o, H a = some o → H' a = some o) → Rel K H' ρ z w → Q w H') → r u v H Q
def Op1 (K : PySem.W.Frag) (φ : D → MS → Option D) (r : V → Hp → VK → Prop) : Prop := ∀ x z M H ρ u (Q : VK), φ x M = some z → HR K H ρ M → Rel K H ρ x u →
  (∀ H' w, (∀ a o, H a = some o → H' a = some o) → Rel K H' ρ z w → Q w H') → r u H Q
def OpN (K : PySem.W.Frag) (φ : List D → MS → Option D) (r : List V → Hp → VK → Prop) : Prop := ∀ xs z M H ρ us (Q : VK), φ xs M = some z → HR K H ρ M → Rels K H ρ xs us →
  (∀ H' w, (∀ a o, H a = some o → H' a = some o) → Rel K H' ρ z w → Q w H') → r us H Q
def optR (o : Option D) (M : MS) : Res D := match o with
  | some z => .ok z M
  | none => .fail
def f2 (φ : D → D → MS → Option D) (f1 f2 : Fx D) : Fx D := fun η M => bindR (f1 η M) fun x M1 => bindR (f2 η M1) fun y M2 => optR (φ x y M2) M2
def f1 (φ : D → MS → Option D) (f1 : Fx D) : Fx D := fun η M => bindR (f1 η M) fun x M1 => optR (φ x M1) M1
def fN (φ : List D → MS → Option D) (fa : Fx (List D)) : Fx D := fun η M => bindR (fa η M) fun x M1 => optR (φ x M1) M1
section
variable {K : PySem.W.Frag} {g : GW} {σ : L2.St} {H : Hp} {Q : VK} {r r' : R2} {φ : D → D → MS → Option D} {ψ : D → MS → Option D} {χ : List D → MS → Option D} {fa fb : Fx D} {fs : Fx (List D)}
theorem post_opt {ρ : RS} {o : Option D} {M : MS} (hr : HR g.K H ρ M) (h : Post g σ H ρ (fun d M' H' ρ' => ∀ v, Rel g.K H' ρ' d v → Q v H') (optR o M)) :
    ∃ z, o = some z ∧ ∀ H' w, (∀ a u, H a = some u → H' a = some u) → Rel g.K H' ρ z w → Q w H' := by
  cases o with
  | none => exact h.elim
  | some z => exact ⟨z, rfl, fun H' w k rw => h H' ρ (Step.ext hr k) (hr.ext k) w rw⟩
theorem t_op2 (ho : Op2 g.K φ r) (h : tE g (f2 φ fa fb) σ H Q) : tOp r (tE g fa) (tE g fb) σ H Q := by
  obtain ⟨ρ, M, η, hr, er, h⟩ := h
  refine ⟨ρ, M, η, hr, er, h.bind.mono fun x M1 H1 ρ1 s1 hr1 h1 u ru => ?_⟩
  refine ⟨ρ1, M1, η, hr1, er.mono s1.toExt hr, h1.bind.mono fun y M2 H2 ρ2 s2 hr2 h2 v rv => ?_⟩
  obtain ⟨z, ez, q⟩ := post_opt hr2 h2
  exact ho x y z M2 H2 ρ2 u v Q ez hr2 (ru.mono s2.toExt hr1 x u) rv q
theorem t_op1 {r : V → Hp → VK → Prop} (ho : Op1 g.K ψ r) (h : tE g (f1 ψ fa) σ H Q) : tUn r (tE g fa) σ H Q := by
  obtain ⟨ρ, M, η, hr, er, h⟩ := h
  refine ⟨ρ, M, η, hr, er, h.bind.mono fun x M1 H1 ρ1 s1 hr1 h1 u ru => ?_⟩
  obtain ⟨z, ez, q⟩ := post_opt hr1 h1
  exact ho x z M1 H1 ρ1 u Q ez hr1 ru q
theorem t_opN {r : List V → Hp → VK → Prop} (ho : OpN g.K χ r) (h : tE g (fN χ fs) σ H Q) : tCB r (tA g fs) σ H Q := by
  obtain ⟨ρ, M, η, hr, er, h⟩ := h
  refine ⟨ρ, M, η, hr, er, h.bind.mono fun x M1 H1 ρ1 s1 hr1 h1 u ru => ?_⟩
  obtain ⟨z, ez, q⟩ := post_opt hr1 h1
  exact ho x z M1 H1 ρ1 u Q ez hr1 ru q
end

/-! ### arguments -/
def aNil : Fx (List D) := fun _ M => .ok [] M
def aCons (f : Fx D) (fs : Fx (List D)) : Fx (List D) := fun η M => bindR (f η M) fun x M1 => bindR (fs η M1) fun xs M2 => .ok (x :: xs) M2
section
variable {X : Cx} {g : GW} {e : Expr} {es : List Expr} {f : Fx D} {fs : Fx (List D)}
theorem da_nil : PA X [] (tA g aNil) := by
  refine PA.imp pa_nil fun σ H Q h => ?_
  obtain ⟨ρ, M, η, hr, er, h⟩ := h
  exact h H ρ (Step.refl H ρ) hr [] rfl
theorem da_cons (ha : PE X e (tE g f)) (hb : PA X es (tA g fs)) (hs : starEach (e :: es) X.env = (false, eval e X.env) :: starEach es X.env) : PA X (e :: es) (tA g (aCons f fs)) := by
  refine PA.imp (pa_cons ha hb hs) fun σ H Q h => ?_
  obtain ⟨ρ, M, η, hr, er, h⟩ := h
  refine ⟨ρ, M, η, hr, er, h.bind.mono fun x M1 H1 ρ1 s1 hr1 h1 u ru => ?_⟩
  refine ⟨ρ1, M1, η, hr1, er.mono s1.toExt hr, h1.bind.mono fun xs M2 H2 ρ2 s2 hr2 h2 us rus => ?_⟩
  exact h2 H2 ρ2 (Step.refl H2 ρ2) hr2 (u :: us) (Rels.cons (ru.mono s2.toExt hr1 x u) rus)
end

/-! ### displays -/
def fTup (fs : Fx (List D)) : Fx D := fun η M => bindR (fs η M) fun xs M1 => if xs.length ≤ sizeLine then .ok (.tup xs) M1 else .fail
def nLst (fs : Fx (List D)) : Fx (List D) := fun η M => bindR (fs η M) fun xs M1 => if xs.length ≤ sizeLine then .ok xs M1 else .fail
/-- a new list, that nobody will change -/
def fLst (fs : Fx (List D)) : Fx D := fun η M => bindR (fs η M) fun xs M1 => .ok (.lst xs) M1
/-- a new list that may be changed -/
def fBox (fs : Fx (List D)) : Fx D := fun η M => bindR (fs η M) fun xs M1 => .ok (.ref M1.length) (M1 ++ [.lst xs])
section
variable {X : Cx} {g : GW} {e : Expr} {es : List Expr} {f : Fx D} {fs : Fx (List D)} {pos : Pos}
theorem d_tup {x1} (h : PA X es (tA g fs)) : PE X (.Tuple es x1 pos) (tE g (fTup fs)) := by
  refine PE.imp (pe_tup h) fun σ H Q h => ?_
  obtain ⟨ρ, M, η, hr, er, h⟩ := h
  refine ⟨ρ, M, η, hr, er, h.bind.mono fun xs M1 H1 ρ1 s1 hr1 h1 us rus => ?_⟩
  split at h1
  · rename_i hl
    refine ⟨by rw [← rus.length]; exact hl, fun p hp => ?_⟩
    exact h1 _ ρ1 (Step.ext hr1 (keep_new hp)) (hr1.ext (keep_new hp)) _ (Rel.tup_new hp hr1 rus)
  · exact h1.elim
end
theorem Step.back {H H1 : Hp} {ρ ρ1 : RS} {K : PySem.W.Frag} {M1 : MS} {p : Addr} (s : Step H ρ H1 ρ1) (hr : HR K H1 ρ1 M1) (h : H1 p = none) : H p = none := by
  cases q : H p with
  | none => rfl
  | some o =>
    by_cases hi : p ∈ ρ.all
    · have hp : p ∈ ρ1.all := by
        rcases List.mem_append.mp hi with hi | hi
        · obtain ⟨m, e⟩ := s.more
          exact List.mem_append_left _ (by rw [e]; exact List.mem_append_left _ hi)
        · exact List.mem_append_right _ (by rw [s.z]; exact hi)
      exact absurd h (hr.nn hp)
    · exact absurd h (s.keep p o q hi).nn
section
variable {K : PySem.W.Frag} {H H' : Hp} {ρ : RS} {M : MS} {p : Addr} {o : HO} {ids z : List Addr} {ds : List D} {vs : List V}
theorem Ext.reserve (hp : H p = none) : Ext H ρ (upd H p o) ⟨ρ.ids, p :: ρ.z⟩ :=
  ⟨⟨[], by simp⟩, fun a ha => by
    rcases List.mem_append.mp ha with h | h
    · exact .inl (List.mem_append_left _ h)
    · rcases List.mem_cons.mp h with h | h
      · exact .inr (h ▸ hp)
      · exact .inl (List.mem_append_right _ h), fun a u e _ => .inl (keep_new hp a u e)⟩
/-- what stands for a thing does still with p among what is being made -/
theorem HR.reserve (hr : HR K H ρ M) (hp : H p = none) (mu : Bx (some o)) : HR K (upd H p o) ⟨ρ.ids, p :: ρ.z⟩ M := by
  have hn := hr.fresh hp
  have nd : (ρ.ids ++ p :: ρ.z).Nodup := by
    have h1 : (p :: (ρ.ids ++ ρ.z)).Nodup := List.nodup_cons.mpr ⟨hn, hr.nd⟩
    exact (List.perm_middle.nodup_iff).mpr h1
  have same : ∀ a ∈ ρ.all, (upd H p o) a = H a := fun a ha => upd_ne fun e => hn (e ▸ ha)
  refine ⟨nd, hr.len, fun n ob e a q => (hr.at_ n ob e a q).mono (Ext.reserve hp) hr (same a (List.mem_append_left _ (List.mem_of_getElem? q))), fun a ha => ?_⟩
  rcases List.mem_cons.mp ha with h | h
  · rw [h, upd_same]; exact mu
  · rw [same a (List.mem_append_right _ h)]; exact hr.zl a h
theorem Ext.shrink : Ext H ⟨ids, p :: z⟩ H ⟨ids, z⟩ := ⟨⟨[], by simp⟩, fun a ha => by
  rcases List.mem_append.mp ha with h | h
  · exact .inl (List.mem_append_left _ h)
  · exact .inl (List.mem_append_right _ (List.mem_cons_of_mem _ h)), fun _ _ e _ => .inl e⟩
theorem Ext.box : Ext H ⟨ids, p :: z⟩ H ⟨ids ++ [p], z⟩ := ⟨⟨[p], rfl⟩, fun a ha => by
  rcases List.mem_append.mp ha with h | h
  · rcases List.mem_append.mp h with h | h
    · exact .inl (List.mem_append_left _ h)
    · exact .inl (List.mem_append_right _ (by rw [List.mem_singleton.mp h]; exact List.mem_cons_self))
  · exact .inl (List.mem_append_right _ (List.mem_cons_of_mem _ h)), fun _ _ e _ => .inl e⟩
theorem HR.pn (hr : HR K H ⟨ids, p :: z⟩ M) : p ∉ (ids ++ z) := by
  have h1 : (p :: (ids ++ z)).Nodup := (List.perm_middle.nodup_iff).mp hr.nd
  exact (List.nodup_cons.mp h1).1
theorem HR.shrink (hr : HR K H ⟨ids, p :: z⟩ M) : HR K H ⟨ids, z⟩ M := by
  have h1 : (p :: (ids ++ z)).Nodup := (List.perm_middle.nodup_iff).mp hr.nd
  exact ⟨(List.nodup_cons.mp h1).2, hr.len, fun n ob e a q => (hr.at_ n ob e a q).mono Ext.shrink hr rfl, fun a ha => hr.zl a (List.mem_cons_of_mem _ ha)⟩
theorem HR.box {ob : MO} (hr : HR K H ⟨ids, p :: z⟩ M) (h : ObR K H ⟨ids, p :: z⟩ p ob) : HR K H ⟨ids ++ [p], z⟩ (M ++ [ob]) := by
  have nd : ((ids ++ [p]) ++ z).Nodup := by
    rw [List.append_assoc]
    exact hr.nd
  have hl : ids.length = M.length := hr.len
  refine ⟨nd, by simp [hl], fun n o e a q => ?_, fun a ha => hr.zl a (List.mem_cons_of_mem _ ha)⟩
  have q : (ids ++ [p])[n]? = some a := q
  by_cases hn : n < M.length
  · rw [List.getElem?_append_left hn] at e
    rw [List.getElem?_append_left (by omega)] at q
    exact (hr.at_ n o e a q).mono Ext.box hr rfl
  · have e1 : n = M.length := by
      have := (List.getElem?_eq_some_iff.mp e).1
      rw [List.length_append] at this
      simp at this
      omega
    subst e1
    rw [List.getElem?_append_right (Nat.le_refl _)] at e
    rw [List.getElem?_append_right (by omega), hl] at q
    simp at e q
    subst e q
    exact h.mono Ext.box hr rfl
theorem Step.box {ρ : RS} {ids : List Addr} (s : Step H ρ H' ⟨ids, ρ.z⟩) (hp : H p = none) : Step H ρ H' ⟨ids ++ [p], ρ.z⟩ := by
  obtain ⟨m, e⟩ := s.more
  have e : ids = ρ.ids ++ m := e
  refine ⟨⟨⟨m ++ [p], by show ids ++ [p] = _; rw [e, List.append_assoc]⟩, fun a ha => ?_, s.keep⟩, rfl, s.zk⟩
  rcases List.mem_append.mp ha with h | h
  · rcases List.mem_append.mp h with h | h
    · exact s.new a (List.mem_append_left _ h)
    · rw [List.mem_singleton.mp h]; exact .inr hp
  · exact s.new a (List.mem_append_right _ h)
end
section
variable {X : Cx} {g : GW} {e : Expr} {es : List Expr} {f : Fx (List D)} {fs : Fx (List D)} {pos : Pos}
theorem n_lst (h : PA X es (tA g fs)) : PE X (.List es pos) (tN g (nLst fs)) := by
  refine PE.imp (pe_lst h) fun σ H Q h => ?_
  obtain ⟨ρ, M, η, hr, er, h⟩ := h
  refine ⟨ρ, M, η, hr, er, ?_⟩
  unfold nLst at h
  cases q : fs η M with
  | ok xs M1 =>
    rw [q] at h
    intro H1 ρ1 s1 hr1 us rus
    by_cases hl : xs.length ≤ sizeLine
    · have h : PostN g σ H ρ Q (if xs.length ≤ sizeLine then Res.ok xs M1 else .fail) := h
      rw [if_pos hl] at h
      refine ⟨by rw [← rus.length]; exact hl, fun p hp => ?_⟩
      have hz : ρ1.z = ρ.z := s1.z
      have s2 : Step H ρ (upd H1 p (.lst us)) ⟨ρ1.ids, ρ.z⟩ := by
        rw [← hz]
        exact s1.trans (Step.ext hr1 (keep_new hp)) hr1
      refine h p us _ ρ1.ids s2 (s1.back hr1 hp) ?_ upd_same ?_
      · rw [← hz]; exact hr1.reserve hp trivial
      · rw [← hz]; exact Rels.mono (Ext.reserve hp) hr1 _ _ rus
    · have h : PostN g σ H ρ Q (if xs.length ≤ sizeLine then Res.ok xs M1 else .fail) := h
      rw [if_neg hl] at h
      exact h.elim
  | exc x M1 => rw [q] at h; exact h
  | fail => rw [q] at h; exact h
theorem d_frozen (h : PE X e (tN g f)) : PE X e (tE g (fLst f)) := by
  refine PE.imp h fun σ H Q h => ?_
  obtain ⟨ρ, M, η, hr, er, h⟩ := h
  refine ⟨ρ, M, η, hr, er, ?_⟩
  unfold fLst at h
  cases q : f η M with
  | ok xs M1 =>
    rw [q] at h
    intro p vs H' ids' s hp hr' hv rs
    exact h H' ⟨ids', ρ.z⟩ s hr'.shrink (.ref p) ⟨p, vs, rfl, ⟨hv, hr'.pn⟩, Rels.mono Ext.shrink hr' _ _ rs⟩
  | exc x M1 => rw [q] at h; exact h
  | fail => rw [q] at h; exact h
theorem d_box (h : PE X e (tN g f)) : PE X e (tE g (fBox f)) := by
  refine PE.imp h fun σ H Q h => ?_
  obtain ⟨ρ, M, η, hr, er, h⟩ := h
  refine ⟨ρ, M, η, hr, er, ?_⟩
  unfold fBox at h
  cases q : f η M with
  | ok xs M1 =>
    rw [q] at h
    intro p vs H' ids' s hp hr' hv rs
    have hl : ids'.length = M1.length := hr'.len
    refine h H' ⟨ids' ++ [p], ρ.z⟩ (s.box hp) (hr'.box ⟨vs, hv, rs⟩) (.ref p) ⟨p, rfl, ?_⟩
    show (ids' ++ [p])[M1.length]? = some p
    rw [← hl, List.getElem?_append_right (Nat.le_refl _)]
    simp
  | exc x M1 => rw [q] at h; exact h
  | fail => rw [q] at h; exact h
end
end NV
end
section
set_option Elab.async false
set_option linter.all false
set_option maxRecDepth 100000
set_option maxHeartbeats 4000000
set_option autoImplicit false
namespace NV
open PySem PySem.Spec L2

/-! ### what may be read of a value -/
def lsOf (M : MS) : D → Option (List D)
  | .lst xs => some xs
  | .frl xs => some xs
  | .ref n => match M[n]? with
    | some (.lst xs) => some xs
    | _ => none
  | _ => none
def lxOf (M : MS) : D → Option (List D)
  | .lst xs => some xs
  | .ref n => match M[n]? with
    | some (.lst xs) => some xs
    | _ => none
  | _ => none
def tpOf : D → Option (List D)
  | .tup xs => some xs
  | .frt xs => some xs
  | _ => none
def dkOf (M : MS) : D → Option (List (Key × D))
  | .dcK kvs => some kvs
  | .ref n => match M[n]? with
    | some (.dcK kvs) => some kvs
    | some (.lkK kvs) => some kvs
    | _ => none
  | _ => none
def dtOf (M : MS) : D → Option (List (List Key × D))
  | .dcT kvs => some kvs
  | .ref n => match M[n]? with
    | some (.dcT kvs) => some kvs
    | some (.lkT kvs) => some kvs
    | _ => none
  | _ => none
def pD (M : MS) : D → Option PyData
  | .ref n => match M[n]? with
    | some (.lst xs) => if plains xs = true then some (.list (ps xs)) else none
    | _ => none
  | d => if d.plain = true then some d.p else none
section
variable {K : PySem.W.Frag} {H : Hp} {ρ : RS} {M : MS} {d : D} {v : V} {xs : List D}
theorem ref_at {n : Nat} {o : MO} (hr : HR K H ρ M) (e : M[n]? = some o) (r : Rel K H ρ (.ref n) v) : ∃ a, v = .ref a ∧ ρ.ids[n]? = some a ∧ ObR K H ρ a o := by
  obtain ⟨a, rfl, q⟩ := r
  exact ⟨a, rfl, q, hr.at_ n o e a q⟩
theorem lx_rel (hr : HR K H ρ M) (e : lxOf M d = some xs) (r : Rel K H ρ d v) : ∃ a vs, v = .ref a ∧ H a = some (.lst vs) ∧ Rels K H ρ xs vs := by
  cases d with
  | lst ys => cases e; obtain ⟨a, vs, rfl, q, h⟩ := r; exact ⟨a, vs, rfl, q.1, h⟩
  | ref n =>
    have e : (match M[n]? with | some (.lst xs) => some xs | _ => none) = some xs := e
    split at e
    · rename_i ys q
      cases e
      obtain ⟨a, rfl, _, vs, h1, h2⟩ := ref_at hr q r
      exact ⟨a, vs, rfl, h1, h2⟩
    · cases e
  | _ => cases e
theorem ls_rel (hr : HR K H ρ M) (e : lsOf M d = some xs) (r : Rel K H ρ d v) : ∃ a vs, v = .ref a ∧ SqL K H a vs ∧ Rels K H ρ xs vs := by
  cases d with
  | frl ys => cases e; obtain ⟨a, vs, rfl, q, h⟩ := r; exact ⟨a, vs, rfl, q.sqL, h⟩
  | lst ys => obtain ⟨a, vs, e1, q, h⟩ := lx_rel (d := .lst ys) hr e r; exact ⟨a, vs, e1, SqL.of q, h⟩
  | ref n => obtain ⟨a, vs, e1, q, h⟩ := lx_rel (d := .ref n) hr e r; exact ⟨a, vs, e1, SqL.of q, h⟩
  | _ => cases e
theorem tp_rel (e : tpOf d = some xs) (r : Rel K H ρ d v) : ∃ a vs, v = .ref a ∧ SqT K H a vs ∧ Rels K H ρ xs vs := by
  cases d with
  | tup ys => cases e; obtain ⟨a, vs, rfl, q, h⟩ := r; exact ⟨a, vs, rfl, SqT.of q, h⟩
  | frt ys => cases e; obtain ⟨a, vs, rfl, q, h⟩ := r; exact ⟨a, vs, rfl, q, h⟩
  | _ => cases e
theorem dk_rel {kvs : List (Key × D)} (hr : HR K H ρ M) (e : dkOf M d = some kvs) (r : Rel K H ρ d v) : ∃ a us, v = .ref a ∧ Rd H a (.dK us) ∧ RelK K H ρ kvs us := by
  cases d with
  | dcK ys => cases e; obtain ⟨a, us, rfl, _, q⟩ := r; exact ⟨a, us, rfl, q⟩
  | ref n =>
    have e : (match M[n]? with | some (.dcK xs) => some xs | some (.lkK xs) => some xs | _ => none) = some kvs := e
    split at e
    · rename_i ys q
      cases e
      obtain ⟨a, rfl, _, us, h1, h2⟩ := ref_at hr q r
      exact ⟨a, us, rfl, .inl h1, h2⟩
    · rename_i ys q
      cases e
      obtain ⟨a, rfl, _, us, o, h1, h2⟩ := ref_at hr q r
      exact ⟨a, us, rfl, .inr ⟨o, h1⟩, h2⟩
    · cases e
  | _ => cases e
theorem dt_rel {kvs : List (List Key × D)} (hr : HR K H ρ M) (e : dtOf M d = some kvs) (r : Rel K H ρ d v) : ∃ a us, v = .ref a ∧ Rd H a (.dT us) ∧ RelT K H ρ kvs us := by
  cases d with
  | dcT ys => cases e; obtain ⟨a, us, rfl, _, q⟩ := r; exact ⟨a, us, rfl, q⟩
  | ref n =>
    have e : (match M[n]? with | some (.dcT xs) => some xs | some (.lkT xs) => some xs | _ => none) = some kvs := e
    split at e
    · rename_i ys q
      cases e
      obtain ⟨a, rfl, _, us, h1, h2⟩ := ref_at hr q r
      exact ⟨a, us, rfl, .inl h1, h2⟩
    · rename_i ys q
      cases e
      obtain ⟨a, rfl, _, us, o, h1, h2⟩ := ref_at hr q r
      exact ⟨a, us, rfl, .inr ⟨o, h1⟩, h2⟩
    · cases e
  | _ => cases e
theorem pD_rel {z : PyData} (hr : HR K H ρ M) (e : pD M d = some z) (r : Rel K H ρ d v) : Dp K H v z ∧ z.canLay0 = true := by
  have key : (if d.plain = true then some d.p else none) = some z → Dp K H v z ∧ z.canLay0 = true := fun e => by
    split at e
    · rename_i hp
      cases e
      exact rel_dp d v hp r
    · cases e
  cases d with
  | ref n =>
    have e : (match M[n]? with | some (.lst xs) => if plains xs = true then some (.list (ps xs)) else none | _ => none) = some z := e
    split at e
    · rename_i ys q
      split at e
      · rename_i hp
        cases e
        obtain ⟨a, rfl, _, vs, h1, h2⟩ := ref_at hr q r
        obtain ⟨h3, h4⟩ := rel_dps ys vs hp h2
        exact ⟨.lst (SqL.of h1) h3, by simpa [PyData.canLay0] using h4⟩
      · cases e
    · cases e
  | non => exact key e
  | bl _ => exact key e
  | int _ => exact key e
  | str _ => exact key e
  | tup _ => exact key e
  | lst _ => exact key e
  | dcK _ => exact key e
  | dcT _ => exact key e
  | frl _ => exact key e
  | frt _ => exact key e
  | ty _ => exact key e
end

/-! ### arithmetic -/
def aAdd (x y : D) (M : MS) : Option D := match x, y with
  | .int i, .int j => some (.int (i + j))
  | .str a, .str b => if a.length + b.length ≤ sizeLine then some (.str (a ++ b)) else none
  | .tup xs, .tup ys => if xs.length + ys.length ≤ sizeLine then some (.tup (xs ++ ys)) else none
  | _, _ => none
def aCat (x y : D) (M : MS) : Option (List D) := match lxOf M x, lxOf M y with
  | some xs, some ys => if xs.length + ys.length ≤ sizeLine then some (xs ++ ys) else none
  | _, _ => none
def aSub (x y : D) (M : MS) : Option D := match x, y with
  | .int i, .int j => some (.int (i - j))
  | _, _ => none
open Classical in
noncomputable def aMul (x y : D) (M : MS) : Option D := match x, y with
  | .int i, .int j => if CMul i j ∨ CMulW i j then some (.int (i * j)) else none
  | _, _ => none
open Classical in
noncomputable def aFdiv (x y : D) (M : MS) : Option D := match x, y with
  | .int i, .int j => if CDivN i j ∨ CDivW i j then some (.int (i.fdiv j)) else none
  | _, _ => none
def aMod (x y : D) (M : MS) : Option D := match x, y with
  | .int i, .int j => if j ≠ 0 then some (.int (i.fmod j)) else none
  | _, _ => none
open Classical in
noncomputable def aPow (x y : D) (M : MS) : Option D := match x, y with
  | .int i, .int j => if CPow i j then some (.int (i ^ j.toNat)) else none
  | _, _ => none
def aNeg (x : D) (M : MS) : Option D := match x with
  | .int i => some (.int (-i))
  | _ => none
/-! list * int, tuple * int -/
def aRep (x y : D) (M : MS) : Option (List D) := match lxOf M x, y with
  | some xs, .int k => if k < 2 ^ 63 ∧ -(2 ^ 63) ≤ k ∧ xs.length * k.toNat ≤ sizeLine then some (List.replicate k.toNat xs).flatten else none
  | _, _ => none
theorem strOk_append {a b : Str} (ha : PyData.strOk a = true) (hb : PyData.strOk b = true) : PyData.strOk (a ++ b) = true := by
  unfold PyData.strOk at *
  show ((a.cps ++ b.cps).all _) = true
  rw [Array.all_append, ha, hb]
  rfl
theorem length_append (a b : Str) : (a ++ b).length = a.length + b.length := by
  show (a.cps ++ b.cps).size = _
  rw [Array.size_append]
  rfl
theorem SOk.append {a b : Str} (ha : SOk a) (hb : SOk b) (h : a.length + b.length ≤ sizeLine) : SOk (a ++ b) := ⟨strOk_append ha.1 hb.1, by rw [length_append]; exact h⟩
def rAddA (K : PySem.W.Frag) : R2 := fun x y H Q => (rI0 (fun i j => .int (i + j)) x y H Q ∨ (∃ i j, x = .str i ∧ y = .str j ∧ i.length + j.length ≤ sizeLine ∧ Q (.str (i ++ j)) H)) ∨ rCatA K x y H Q
section
variable {X : Cx} {K : PySem.W.Frag}
theorem op_addA : OpR X (binaryOp .Add) (rAddA X.K) := OpR.or (OpR.or op_add op_add_str) op_catA
theorem o_add : Op2 K aAdd (rAddA K) := by
  intro x y z M H ρ u v Q e hr rx ry q
  unfold aAdd at e
  split at e
  · cases e
    refine .inl (.inl ⟨_, _, rx, ry, q H _ (fun _ _ h => h) rfl⟩)
  · split at e
    · rename_i hl
      cases e
      obtain ⟨rfl, hx⟩ := rx
      obtain ⟨rfl, hy⟩ := ry
      exact .inl (.inr ⟨_, _, rfl, rfl, hl, q H _ (fun _ _ h => h) ⟨rfl, hx.append hy hl⟩⟩)
    · cases e
  · split at e
    · rename_i xs ys hl
      cases e
      obtain ⟨a, us, rfl, ha, rx⟩ := rx
      obtain ⟨b, vs, rfl, hb, ry⟩ := ry
      refine .inr ⟨a, b, us, vs, rfl, rfl, SqT.of ha, SqT.of hb, by rw [← rx.length, ← ry.length]; exact hl, fun e => ?_, fun _ e => ?_, fun _ _ p hp => ?_⟩
      · refine q H _ (fun _ _ h => h) ⟨b, vs, rfl, hb, ?_⟩
        have z := rx.append ry
        rw [e] at z; exact z
      · refine q H _ (fun _ _ h => h) ⟨a, us, rfl, ha, ?_⟩
        have z := rx.append ry
        rw [e, List.append_nil] at z; exact z
      · exact q _ _ (keep_new hp) (Rel.tup_new hp hr (rx.append ry))
    · cases e
  · cases e
theorem o_sub : Op2 K aSub (rI0 fun i j => .int (i - j)) := by
  intro x y z M H ρ u v Q e hr rx ry q
  unfold aSub at e
  split at e
  · cases e
    exact ⟨_, _, rx, ry, q H _ (fun _ _ h => h) rfl⟩
  · cases e
theorem op_mulA : OpR X (binaryOp .Mult) (fun x y H Q => rI CMul (fun i j => .int (i * j)) x y H Q ∨ rI CMulW (fun i j => .int (i * j)) x y H Q) := OpR.or op_mul op_mulW
theorem o_mul : Op2 K aMul (fun x y H Q => rI CMul (fun i j => .int (i * j)) x y H Q ∨ rI CMulW (fun i j => .int (i * j)) x y H Q) := by
  intro x y z M H ρ u v Q e hr rx ry q
  unfold aMul at e
  split at e
  · split at e
    · rename_i hc
      cases e
      rcases hc with hc | hc
      · exact .inl ⟨_, _, rx, ry, hc, q H _ (fun _ _ h => h) rfl⟩
      · exact .inr ⟨_, _, rx, ry, hc, q H _ (fun _ _ h => h) rfl⟩
    · cases e
  · cases e
theorem op_fdivA : OpR X (binaryOp .FloorDiv) (fun x y H Q => rI CDivN (fun i j => .int (i.fdiv j)) x y H Q ∨ rI CDivW (fun i j => .int (i / j)) x y H Q) := OpR.or op_fdivN op_fdivW
theorem o_fdiv : Op2 K aFdiv (fun x y H Q => rI CDivN (fun i j => .int (i.fdiv j)) x y H Q ∨ rI CDivW (fun i j => .int (i / j)) x y H Q) := by
  intro x y z M H ρ u v Q e hr rx ry q
  unfold aFdiv at e
  split at e
  · rename_i i j
    split at e
    · rename_i hc
      cases e
      rcases hc with hc | hc
      · exact .inl ⟨_, _, rx, ry, hc, q H _ (fun _ _ h => h) rfl⟩
      · refine .inr ⟨_, _, rx, ry, hc, q H _ (fun _ _ h => h) ?_⟩
        show V.int (i / j) = V.int (i.fdiv j)
        rw [Int.fdiv_eq_ediv_of_nonneg i (Int.le_of_lt hc.1)]
    · cases e
  · cases e
theorem o_mod : Op2 K aMod (rI (fun _ j => j ≠ 0) fun i j => .int (i.fmod j)) := by
  intro x y z M H ρ u v Q e hr rx ry q
  unfold aMod at e
  split at e
  · split at e
    · rename_i hc
      cases e
      exact ⟨_, _, rx, ry, hc, q H _ (fun _ _ h => h) rfl⟩
    · cases e
  · cases e
theorem o_pow : Op2 K aPow (rI CPow fun i j => .int (i ^ j.toNat)) := by
  intro x y z M H ρ u v Q e hr rx ry q
  unfold aPow at e
  split at e
  · split at e
    · rename_i hc
      cases e
      exact ⟨_, _, rx, ry, hc, q H _ (fun _ _ h => h) rfl⟩
    · cases e
  · cases e
theorem o_neg : Op1 K aNeg (rU fun i => .int (-i)) := by
  intro x z M H ρ u Q e hr rx q
  unfold aNeg at e
  split at e
  · cases e
    exact ⟨_, rx, q H _ (fun _ _ h => h) rfl⟩
  · cases e
end

/-! ### comparisons -/
def aEq (x y : D) (M : MS) : Option D := match pD M x, pD M y with
  | some a, some b => if min a.depth b.depth ≤ 64 then some (.bl (PyData.eqv a b)) else none
  | _, _ => none
def aNe (x y : D) (M : MS) : Option D := match pD M x, pD M y with
  | some a, some b => if min a.depth b.depth ≤ 64 then some (.bl (!PyData.eqv a b)) else none
  | _, _ => none
def rEqM (K : PySem.W.Frag) : R2 := fun x y H Q => ∃ d e, Dp K H x d ∧ Dp K H y e ∧ d.canLay0 = true ∧ e.canLay0 = true ∧ min d.depth e.depth ≤ 64 ∧ Q (.bl (PyData.eqv d e)) H
def rNeM (K : PySem.W.Frag) : R2 := fun x y H Q => ∃ d e, Dp K H x d ∧ Dp K H y e ∧ d.canLay0 = true ∧ e.canLay0 = true ∧ min d.depth e.depth ≤ 64 ∧ Q (.bl (!PyData.eqv d e)) H
section
variable {X : Cx} {K : PySem.W.Frag}
theorem op_eqM (hu : X.A.units + 64 < cLine) : OpR X (compareOp .Eq) (rEqM X.K) := by
  intro pins s σ H x y v u Q I rx ry h
  obtain ⟨d, e, hd, he, sd, se, hm, q⟩ := h
  obtain ⟨as, r1⟩ := Dp.reads I d x v hd rx
  obtain ⟨bs, r2⟩ := Dp.reads I e y u he ry
  exact SeqAt.compareEq_reads r1 r2 sd se (by omega) ⟨.bl _, H, I, rfl, q⟩
theorem op_neM (hu : X.A.units + 64 < cLine) : OpR X (compareOp .NotEq) (rNeM X.K) := by
  intro pins s σ H x y v u Q I rx ry h
  obtain ⟨d, e, hd, he, sd, se, hm, q⟩ := h
  obtain ⟨as, r1⟩ := Dp.reads I d x v hd rx
  obtain ⟨bs, r2⟩ := Dp.reads I e y u he ry
  exact SeqAt.compareNe_reads r1 r2 sd se (by omega) ⟨.bl _, H, I, rfl, q⟩
theorem o_eq : Op2 K aEq (rEqM K) := by
  intro x y z M H ρ u v Q e hr rx ry q
  unfold aEq at e
  split at e
  · rename_i a b ea eb
    split at e
    · rename_i hm
      cases e
      obtain ⟨d1, c1⟩ := pD_rel hr ea rx
      obtain ⟨d2, c2⟩ := pD_rel hr eb ry
      exact ⟨a, b, d1, d2, c1, c2, hm, q H _ (fun _ _ h => h) rfl⟩
    · cases e
  · cases e
theorem o_ne : Op2 K aNe (rNeM K) := by
  intro x y z M H ρ u v Q e hr rx ry q
  unfold aNe at e
  split at e
  · rename_i a b ea eb
    split at e
    · rename_i hm
      cases e
      obtain ⟨d1, c1⟩ := pD_rel hr ea rx
      obtain ⟨d2, c2⟩ := pD_rel hr eb ry
      exact ⟨a, b, d1, d2, c1, c2, hm, q H _ (fun _ _ h => h) rfl⟩
    · cases e
  · cases e
end
/-- the order of whole numbers, of texts -/
def aCmp (p : Int → Int → Bool) (q : List Nat → List Nat → Bool) (x y : D) (M : MS) : Option D := match x, y with
  | .int i, .int j => some (.bl (p i j))
  | .str i, .str j => some (.bl (q i.cps.toList j.cps.toList))
  | _, _ => none
def rCmp (p : Int → Int → Bool) (q : List Nat → List Nat → Bool) : R2 := fun x y H Q => rI0 (fun i j => .bl (p i j)) x y H Q ∨ (∃ i j, x = .str i ∧ y = .str j ∧ Q (.bl (q i.cps.toList j.cps.toList)) H)
section
variable {X : Cx} {K : PySem.W.Frag}
theorem o_cmp {p : Int → Int → Bool} {q : List Nat → List Nat → Bool} : Op2 K (aCmp p q) (rCmp p q) := by
  intro x y z M H ρ u v Q e hr rx ry k
  unfold aCmp at e
  split at e
  · cases e
    exact .inl ⟨_, _, rx, ry, k H _ (fun _ _ h => h) rfl⟩
  · cases e
    exact .inr ⟨_, _, rx.1, ry.1, k H _ (fun _ _ h => h) rfl⟩
  · cases e
theorem op_ltA : OpR X (compareOp .Lt) (rCmp (fun i j => decide (i < j)) fun i j => decide (i < j)) := OpR.or op_lt op_lt_str
theorem op_leA : OpR X (compareOp .LtE) (rCmp (fun i j => decide (i ≤ j)) fun i j => !decide (j < i)) := OpR.or op_le op_le_str
theorem op_gtA : OpR X (compareOp .Gt) (rCmp (fun i j => decide (j < i)) fun i j => decide (j < i)) := OpR.or op_gt op_gt_str
theorem op_geA : OpR X (compareOp .GtE) (rCmp (fun i j => decide (j ≤ i)) fun i j => !decide (i < j)) := OpR.or op_ge op_ge_str
end

/-! ### in -/
section
variable {κ : Type} [DecidableEq κ]
def valD (kvs : List (κ × D)) (k : κ) : Option D := (kvs.find? fun kv => decide (kv.1 = k)).map (·.2)
def putD (kvs : List (κ × D)) (k : κ) (v : D) : List (κ × D) :=
  if (kvs.any fun kv => decide (kv.1 = k)) = true then kvs.map (fun kv => if kv.1 = k then (kv.1, v) else kv) else kvs ++ [(k, v)]
def dropD (kvs : List (κ × D)) (k : κ) : List (κ × D) := kvs.filter fun kv => decide (kv.1 ≠ k)
end
/-- what a dict holds at a key -/
def getD (M : MS) (x k : D) : Option (Option D) := match dkOf M x with
  | some kvs => (keyD k).map fun q => valD kvs q
  | none => match dtOf M x with
    | some kvs => (keyT k).map fun q => valD kvs q
    | none => none
def hasIn (x y : D) (M : MS) : Option Bool := match y with
  | .str s => match x with
    | .str c => some (!(Builtin.Str.occurrences s c 0 s.length 1).isEmpty)
    | _ => none
  | _ => match getD M y x with
    | some o => some o.isSome
    | none => match pD M x, pD M y with
      | some a, some (.list bs) => if min (PyData.depthAll bs) a.depth ≤ 64 then some (bs.any fun b => PyData.eqv b a) else none
      | some a, some (.tuple bs) => if min (PyData.depthAll bs) a.depth ≤ 64 then some (bs.any fun b => PyData.eqv b a) else none
      | _, _ => none
def aIn (f : Bool → Bool) (x y : D) (M : MS) : Option D := (hasIn x y M).map fun b => .bl (f b)
section
variable {K : PySem.W.Frag} {H : Hp} {ρ : RS} {M : MS}
/-- a found value and its place in the data -/
def RelQ (K : PySem.W.Frag) (H : Hp) (ρ : RS) : Option D → Option V → Prop
  | some d, some v => Rel K H ρ d v
  | none, none => True
  | _, _ => False
theorem RelK.val : ∀ {kvs : List (Key × D)} {us : List (Key × V)} (k : Key), RelK K H ρ kvs us → RelQ K H ρ (valD kvs k) (valV us k)
  | [], us, k, h => by rw [show us = [] from h]; trivial
  | (q, d) :: kvs, us, k, h => by
    obtain ⟨v, r, rfl, _, h1, h2⟩ := h
    by_cases e : q = k
    · have e1 : valD ((q, d) :: kvs) k = some d := by simp [valD, List.find?_cons, e]
      rw [e1, valV_pos (p := (q, v)) e]
      exact h1
    · have e1 : valD ((q, d) :: kvs) k = valD kvs k := by simp [valD, List.find?_cons, e]
      rw [e1, valV_neg (p := (q, v)) e]
      exact RelK.val k h2
theorem RelT.val : ∀ {kvs : List (List Key × D)} {us : List (List Key × V)} (k : List Key), RelT K H ρ kvs us → RelQ K H ρ (valD kvs k) (valV us k)
  | [], us, k, h => by rw [show us = [] from h]; trivial
  | (q, d) :: kvs, us, k, h => by
    obtain ⟨v, r, rfl, _, h1, h2⟩ := h
    by_cases e : q = k
    · have e1 : valD ((q, d) :: kvs) k = some d := by simp [valD, List.find?_cons, e]
      rw [e1, valV_pos (p := (q, v)) e]
      exact h1
    · have e1 : valD ((q, d) :: kvs) k = valD kvs k := by simp [valD, List.find?_cons, e]
      rw [e1, valV_neg (p := (q, v)) e]
      exact RelT.val k h2
theorem keyD_rel {d : D} {k : Key} {v : V} (e : keyD d = some k) (r : Rel K H ρ d v) : v = kV k := by
  cases d with
  | int i => cases e; exact r
  | str s => cases e; exact r.1
  | _ => cases e
theorem keysD_rel : ∀ {xs : List D} {ks : List Key} {vs : List V}, keysD xs = some ks → Rels K H ρ xs vs → vs = ks.map kV
  | [], ks, vs, e, r => by
    have e : some [] = some ks := e
    cases e
    exact r
  | x :: xs, ks, vs, e, r => by
    have e : ((keyD x).bind fun k => (keysD xs).map fun ks => k :: ks) = some ks := e
    obtain ⟨v, w, rfl, h1, h2⟩ := r
    cases q : keyD x with
    | none => rw [q] at e; cases e
    | some k =>
      rw [q] at e
      cases q2 : keysD xs with
      | none => rw [q2] at e; cases e
      | some ks' =>
        rw [q2] at e
        cases e
        rw [keyD_rel q h1, keysD_rel q2 h2]
        rfl
theorem getD_rel {x k : D} {o : Option D} {u w : V} (hr : HR K H ρ M) (e : getD M x k = some o) (rx : Rel K H ρ x u) (rk : Rel K H ρ k w) : ∃ a r, u = .ref a ∧ DGet H a w r ∧ RelQ K H ρ o r := by
  unfold getD at e
  split at e
  · rename_i kvs hk
    obtain ⟨a, us, rfl, h1, h2⟩ := dk_rel hr hk rx
    cases q : keyD k with
    | none => rw [q] at e; cases e
    | some z =>
      rw [q] at e
      cases e
      exact ⟨a, _, rfl, .inl ⟨us, z, h1, keyD_rel q rk, rfl⟩, h2.val z⟩
  · split at e
    · rename_i kvs hk
      obtain ⟨a, us, rfl, h1, h2⟩ := dt_rel hr hk rx
      cases k with
      | tup xs =>
        cases q : keysD xs with
        | none => rw [show keyT (.tup xs) = keysD xs from rfl, q] at e; cases e
        | some z =>
          rw [show keyT (.tup xs) = keysD xs from rfl, q] at e
          cases e
          obtain ⟨b, vs, rfl, hb, rs⟩ := rk
          have := keysD_rel q rs
          subst this
          exact ⟨a, _, rfl, .inr ⟨us, z, b, h1, rfl, hb, rfl⟩, h2.val z⟩
      | _ => cases e
    · cases e
theorem RelQ.isSome {o : Option D} {r : Option V} (h : RelQ K H ρ o r) : o.isSome = r.isSome := by
  cases o <;> cases r <;> first | rfl | exact h.elim
end
def rInM (K : PySem.W.Frag) (f : Bool → Bool) : R2 := fun x y H Q => (∃ i j, x = .str i ∧ y = .str j ∧ Q (.bl (f (!(Builtin.Str.occurrences j i 0 j.length 1).isEmpty))) H) ∨
  (∃ a o, y = .ref a ∧ DGet H a x o ∧ Q (.bl (f o.isSome)) H) ∨
  ∃ d es e, Dp K H x d ∧ Dp K H y e ∧ (e = .list es ∨ e = .tuple es) ∧ d.canLay0 = true ∧ e.canLay0 = true ∧ min (PyData.depthAll es) d.depth ≤ 64 ∧ Q (.bl (f (es.any fun b => PyData.eqv b d))) H
section
variable {X : Cx} {K : PySem.W.Frag}
theorem op_inM (hu : X.A.units + 65 < cLine) : OpR X (compareOp .In) (rInM X.K fun b => b) := by
  intro pins s σ H x y v u Q I rx ry h
  rcases h with h | ⟨a, o, rfl, g, q⟩ | ⟨d, es, e, hd, he, hes, sd, se, hm, q⟩
  · exact op_in_str pins s σ H x y v u Q I rx ry h
  · cases ry
    exact d_in (by omega) I g rx fun s' I' => ⟨.bl _, H, I', rfl, q⟩
  · obtain ⟨as, r1⟩ := Dp.reads I d x v hd rx
    obtain ⟨bs, r2⟩ := Dp.reads I e y u he ry
    rcases hes with rfl | rfl
    · exact SeqAt.in_list_reads r2 r1 (by simpa [PyData.canLay0] using se) sd (by omega) ⟨.bl _, H, I, rfl, q⟩
    · exact SeqAt.in_tuple_reads r2 r1 (by simpa [PyData.canLay0] using se) sd (by omega) ⟨.bl _, H, I, rfl, q⟩
theorem op_notInM (hu : X.A.units + 65 < cLine) : OpR X (compareOp .NotIn) (rInM X.K fun b => !b) := by
  intro pins s σ H x y v u Q I rx ry h
  rcases h with h | ⟨a, o, rfl, g, q⟩ | ⟨d, es, e, hd, he, hes, sd, se, hm, q⟩
  · exact op_notIn_str pins s σ H x y v u Q I rx ry h
  · cases ry
    exact d_notIn (by omega) I g rx fun s' I' => ⟨.bl _, H, I', rfl, q⟩
  · obtain ⟨as, r1⟩ := Dp.reads I d x v hd rx
    obtain ⟨bs, r2⟩ := Dp.reads I e y u he ry
    rcases hes with rfl | rfl
    · exact SeqAt.notIn_list_reads r2 r1 (by simpa [PyData.canLay0] using se) sd (by omega) ⟨.bl _, H, I, rfl, q⟩
    · exact SeqAt.notIn_tuple_reads r2 r1 (by simpa [PyData.canLay0] using se) sd (by omega) ⟨.bl _, H, I, rfl, q⟩
theorem o_in {f : Bool → Bool} : Op2 K (aIn f) (rInM K f) := by
  intro x y z M H ρ u v Q e hr rx ry q
  unfold aIn at e
  cases hh : hasIn x y M with
  | none => rw [hh] at e; cases e
  | some b =>
    rw [hh] at e
    cases e
    have gen : (match getD M y x with
      | some o => some o.isSome
      | none => match pD M x, pD M y with
        | some a, some (.list bs) => if min (PyData.depthAll bs) a.depth ≤ 64 then some (bs.any fun b => PyData.eqv b a) else none
        | some a, some (.tuple bs) => if min (PyData.depthAll bs) a.depth ≤ 64 then some (bs.any fun b => PyData.eqv b a) else none
        | _, _ => none) = some b → rInM K f u v H Q := fun hh => by
      split at hh
      · rename_i o ho
        cases hh
        obtain ⟨a, r, rfl, g, hq⟩ := getD_rel hr ho ry rx
        refine .inr (.inl ⟨a, r, rfl, g, ?_⟩)
        rw [← hq.isSome]
        exact q H _ (fun _ _ h => h) rfl
      · split at hh
        · rename_i a bs ea eb
          split at hh
          · rename_i hm
            cases hh
            obtain ⟨d1, c1⟩ := pD_rel hr ea rx
            obtain ⟨d2, c2⟩ := pD_rel hr eb ry
            exact .inr (.inr ⟨a, bs, _, d1, d2, .inl rfl, c1, c2, hm, q H _ (fun _ _ h => h) rfl⟩)
          · cases hh
        · rename_i a bs ea eb
          split at hh
          · rename_i hm
            cases hh
            obtain ⟨d1, c1⟩ := pD_rel hr ea rx
            obtain ⟨d2, c2⟩ := pD_rel hr eb ry
            exact .inr (.inr ⟨a, bs, _, d1, d2, .inr rfl, c1, c2, hm, q H _ (fun _ _ h => h) rfl⟩)
          · cases hh
        · cases hh
    cases y with
    | str s =>
      cases x with
      | str c =>
        have hh : some (!(Builtin.Str.occurrences s c 0 s.length 1).isEmpty) = some b := hh
        cases hh
        exact .inl ⟨_, _, rx.1, ry.1, q H _ (fun _ _ h => h) rfl⟩
      | _ => cases hh
    | _ => exact gen hh
end
end NV
end
section
set_option Elab.async false
set_option linter.all false
set_option maxRecDepth 100000
set_option maxHeartbeats 4000000
set_option autoImplicit false
namespace NV
open PySem PySem.Spec L2

/-! ### is -/
def isNonD : D → Bool
  | .non => true
  | _ => false
def aIs (f : Bool → Bool) (x y : D) (M : MS) : Option D := match y with
  | .non => some (.bl (f (isNonD x)))
  | .bl b => match x with
    | .bl a => some (.bl (f (decide (a = b))))
    | _ => none
  | _ => none
def rIsM (f : Bool → Bool) : R2 := fun x y H Q => (y = .non ∧ Q (.bl (f (decide (x = .non)))) H) ∨ (∃ a b, x = .bl a ∧ y = .bl b ∧ Q (.bl (f (decide (a = b)))) H)
section
variable {X : Cx} {K : PySem.W.Frag} {H : Hp} {ρ : RS} {M : MS}
theorem op_isM : OpR X (compareOp .Is) (rIsM fun b => b) := OpR.or op_isN op_is_bl
theorem op_isNotM : OpR X (compareOp .IsNot) (rIsM fun b => !b) := OpR.or op_notN op_isnot_bl
theorem isNon_rel {x : D} {u : V} (r : Rel K H ρ x u) : decide (u = .non) = isNonD x := by
  cases x with
  | non => rw [show u = _ from r]; rfl
  | bl b => rw [show u = _ from r]; rfl
  | int b => rw [show u = _ from r]; rfl
  | str b => rw [show u = _ from r.1]; rfl
  | tup xs => obtain ⟨a, vs, rfl, _⟩ := r; rfl
  | lst xs => obtain ⟨a, vs, rfl, _⟩ := r; rfl
  | frl xs => obtain ⟨a, vs, rfl, _⟩ := r; rfl
  | frt xs => obtain ⟨a, vs, rfl, _⟩ := r; rfl
  | ref n => obtain ⟨a, rfl, _⟩ := r; rfl
  | dcK xs => obtain ⟨a, vs, rfl, _⟩ := r; rfl
  | dcT xs => obtain ⟨a, vs, rfl, _⟩ := r; rfl
  | ty n => rw [show u = _ from r]; rfl
theorem o_is {f : Bool → Bool} : Op2 K (aIs f) (rIsM f) := by
  intro x y z M H ρ u v Q e hr rx ry q
  unfold aIs at e
  split at e
  · cases e
    refine .inl ⟨ry, ?_⟩
    rw [isNon_rel rx]
    exact q H _ (fun _ _ h => h) rfl
  · split at e
    · cases e
      exact .inr ⟨_, _, rx, ry, q H _ (fun _ _ h => h) rfl⟩
    · cases e
  · cases e
end

/-! ### places -/
def strAt (s : Str) (k : Int) : Option D := (atI s.cps.toList k).map fun c => .str ⟨#[c]⟩
def aIx (x i : D) (M : MS) : Option D := match i with
  | .int k => match lsOf M x with
    | some xs => atI xs k
    | none => match tpOf x with
      | some xs => atI xs k
      | none => match x with
        | .str s => strAt s k
        | _ => (getD M x i).join
  | _ => (getD M x i).join
def rIxM (K : PySem.W.Frag) : R2 := fun x y H Q => rIx K x y H Q ∨ ∃ a v, x = .ref a ∧ DGet H a y (some v) ∧ Q v H
section
variable {X : Cx} {K : PySem.W.Frag} {H : Hp} {ρ : RS} {M : MS}
theorem ix_dict (hu : X.A.units + 1 < cLine) : IxR X (fun x y H Q => ∃ a v, x = .ref a ∧ DGet H a y (some v) ∧ Q v H) := by
  intro value slice pins s σ H x y v u Q I rx ry h hs
  obtain ⟨a, z, rfl, g, q⟩ := h
  cases rx
  exact PyProof.Rows.tail_any (dict_typeIs I g) PySem.F.slot_dict_getitem.lookup (d_getItem hu I g ry fun w' s3 I3 rw' => ⟨z, H, I3, rw', q⟩) hs
theorem ix_M (hu : X.A.units + 1 < cLine) : IxR X (rIxM X.K) := IxR.or ix_seq (ix_dict hu)
theorem atI_rel {xs : List D} {vs : List V} {k : Int} {x : D} (r : Rels K H ρ xs vs) (e : atI xs k = some x) : ∃ v, atI vs k = some v ∧ Rel K H ρ x v := by
  unfold atI at e ⊢
  rw [← r.length]
  cases q : ixN xs.length k with
  | none => rw [q] at e; cases e
  | some j =>
    rw [q] at e
    exact r.get (i := j) (show xs[j]? = some x from e)
theorem strOk_one {s : Str} {c : Nat} (h : PyData.strOk s = true) (m : c ∈ s.cps.toList) : SOk ⟨#[c]⟩ := by
  unfold PyData.strOk at h
  refine ⟨?_, by show 1 ≤ sizeLine; decide⟩
  have h1 := (Array.all_eq_true_iff_forall_mem.mp h) c (by simpa using m)
  simpa [PyData.strOk] using h1
theorem o_ix : Op2 K aIx (rIxM K) := by
  intro x y z M H ρ u v Q e hr rx ry q
  have dict : (getD M x y).join = some z → rIxM K u v H Q := fun e => by
    cases g : getD M x y with
    | none => rw [g] at e; cases e
    | some o =>
      rw [g] at e
      have e : o = some z := e
      subst e
      obtain ⟨a, r, rfl, dg, hq⟩ := getD_rel hr g rx ry
      cases r with
      | none => exact hq.elim
      | some w => exact .inr ⟨a, w, rfl, dg, q H w (fun _ _ h => h) hq⟩
  unfold aIx at e
  split at e
  · rename_i k
    have hv : v = .int k := ry
    subst hv
    split at e
    · rename_i xs hx
      obtain ⟨a, vs, rfl, hs, r⟩ := ls_rel hr hx rx
      obtain ⟨w, h1, h2⟩ := atI_rel r e
      exact .inl (.inl ⟨a, vs, k, w, rfl, rfl, hs, h1, q H w (fun _ _ h => h) h2⟩)
    · split at e
      · rename_i xs hx
        obtain ⟨a, vs, rfl, hs, r⟩ := tp_rel hx rx
        obtain ⟨w, h1, h2⟩ := atI_rel r e
        exact .inl (.inr (.inl ⟨a, vs, k, w, rfl, rfl, hs, h1, q H w (fun _ _ h => h) h2⟩))
      · split at e
        · rename_i s _ _
          unfold strAt at e
          cases g : atI s.cps.toList k with
          | none => rw [g] at e; cases e
          | some c =>
            rw [g] at e
            cases e
            have m : c ∈ s.cps.toList := by
              unfold atI at g
              cases hj : ixN s.cps.toList.length k with
              | none => rw [hj] at g; cases g
              | some j => rw [hj] at g; exact List.mem_of_getElem? (show s.cps.toList[j]? = some c from g)
            exact .inl (.inr (.inr ⟨s, k, c, rx.1, rfl, rx.2.2, g, q H _ (fun _ _ h => h) ⟨rfl, strOk_one rx.2.1 m⟩⟩))
        · exact dict e
  · exact dict e
theorem d_ix {g : GW} {a b : Expr} {fa fb : Fx D} {pos : Pos} (hk : g.K = X.K) (hu : X.A.units + 1 < cLine) (ha : PE X a (tE g fa)) (hb : PE X b (tE g fb)) (hs : PlainIx b) : PE X (.Subscript a b pos) (tE g (f2 aIx fa fb)) :=
  PE.imp (pe_ix (ix_M hu) ha hb hs) fun σ H Q h => t_op2 (by rw [hk]; exact o_ix) h
end

/-! ### slices -/
def cut {α : Type} (xs : List α) (lo hi : Option Int) : List α := (xs.drop (HT.sIx xs.length 0 lo)).take (HT.sIx xs.length xs.length hi - HT.sIx xs.length 0 lo)
def aSl (x : D) (lo hi : Option Int) (M : MS) : Option D := match lsOf M x with
  | some xs => some (.lst (cut xs lo hi))
  | none => match x with
    | .tup xs => some (.tup (cut xs lo hi))
    | .str s => some (.str (cutS s lo hi))
    | _ => none
def rSlM (K : PySem.W.Frag) : V → Option Int → Option Int → Hp → VK → Prop := fun x lo hi H Q => (rSlL K x lo hi H Q ∨ rSlA K x lo hi H Q) ∨ rSlS x lo hi H Q
/-- a bound that may be left out -/
def fOpt (f : Fx D) : Fx (Option Int) := fun η M => bindR (f η M) fun x M1 => match x with
  | .int i => .ok (some i) M1
  | _ => .fail
def fNone : Fx (Option Int) := fun _ M => .ok none M
def tO (g : GW) (f : Fx (Option Int)) : TO := fun σ H Q => ∃ ρ M η, HR g.K H ρ M ∧ ER g.K H ρ η σ ∧ Post g σ H ρ (fun o M' H' ρ' => Q o H') (f η M)
def fSl (fx : Fx D) (fl fh : Fx (Option Int)) : Fx D := fun η M => bindR (fx η M) fun x M1 => bindR (fl η M1) fun l M2 => bindR (fh η M2) fun h M3 => optR (aSl x l h M3) M3
section
variable {X : Cx} {K : PySem.W.Frag} {H : Hp} {ρ : RS} {M : MS} {g : GW}
theorem PO.imp {e : Option Expr} {t t' : TO} (h : PO X e t) (k : ∀ σ H Q, t' σ H Q → t σ H Q) : PO X e t' := by
  exact ⟨fun pins s σ H Q I q => h.run pins s σ H Q I (k σ H Q q)⟩
theorem do_none : PO X none (tO g fNone) := by
  refine PO.imp po_none fun σ H Q h => ?_
  obtain ⟨ρ, M, η, hr, er, h⟩ := h
  exact h H ρ (Step.refl H ρ) hr
theorem do_some {e : Expr} {f : Fx D} (h : PE X e (tE g f)) : PO X (some e) (tO g (fOpt f)) := by
  refine PO.imp (po_some h) fun σ H Q h => ?_
  obtain ⟨ρ, M, η, hr, er, h⟩ := h
  refine ⟨ρ, M, η, hr, er, h.bind.mono fun x M1 H1 ρ1 s1 hr1 h1 u ru => ?_⟩
  cases x with
  | int i => exact ⟨i, ru, h1 H1 ρ1 (Step.refl H1 ρ1) hr1⟩
  | _ => exact h1.elim
theorem sl_M : SlR X (rSlM X.K) := SlR.or (SlR.or sl_list sl_tupA) sl_str
theorem Rels.cut {xs : List D} {vs : List V} (lo hi : Option Int) (r : Rels K H ρ xs vs) : Rels K H ρ (cut xs lo hi) (cutV vs lo hi) := by
  unfold NV.cut cutV
  rw [← r.length]
  exact (r.drop _).take _
theorem cut_whole {α : Type} {xs : List α} {lo hi : Option Int} (h : HT.sIx xs.length 0 lo = 0 ∧ HT.sIx xs.length xs.length hi = xs.length) : cut xs lo hi = xs := by
  unfold cut
  rw [h.1, h.2]
  simp
theorem strOk_cut {s : Str} {lo hi : Option Int} (h : SOk s) : SOk (cutS s lo hi) := by
  obtain ⟨h1, h2⟩ := h
  unfold PyData.strOk at h1
  have h3 := Array.all_eq_true_iff_forall_mem.mp h1
  constructor
  · unfold PyData.strOk
    refine Array.all_eq_true_iff_forall_mem.mpr fun c hc => h3 c ?_
    have hc : c ∈ ((s.cps.toList.drop (HT.sIx s.length 0 lo)).take (HT.sIx s.length s.length hi - HT.sIx s.length 0 lo)).toArray := hc
    have hc := List.mem_of_mem_take (by simpa using hc)
    simpa using List.mem_of_mem_drop hc
  · show ((s.cps.toList.drop (HT.sIx s.length 0 lo)).take (HT.sIx s.length s.length hi - HT.sIx s.length 0 lo)).toArray.size ≤ _
    have : s.cps.toList.length = s.length := by simp [Str.length]
    rw [List.size_toArray, List.length_take, List.length_drop]
    omega
theorem o_sl {x z : D} {lo hi : Option Int} {u : V} {Q : VK} (e : aSl x lo hi M = some z) (hr : HR K H ρ M) (rx : Rel K H ρ x u)
    (q : ∀ H' w, (∀ a o, H a = some o → H' a = some o) → Rel K H' ρ z w → Q w H') : rSlM K u lo hi H Q := by
  unfold aSl at e
  split at e
  · rename_i xs hx
    cases e
    obtain ⟨a, vs, rfl, hs, r⟩ := ls_rel hr hx rx
    exact .inl (.inl ⟨a, vs, rfl, hs, fun p hp => q _ _ (keep_new hp) (Rel.lst_new hp hr (r.cut lo hi))⟩)
  · split at e
    · cases e
      obtain ⟨a, vs, rfl, hs, r⟩ := rx
      refine .inl (.inr ⟨a, vs, rfl, SqT.of hs, fun hw => ?_, fun _ p hp => q _ _ (keep_new hp) (Rel.tup_new hp hr (r.cut lo hi))⟩)
      refine q H _ (fun _ _ h => h) ⟨a, vs, rfl, hs, ?_⟩
      rw [← r.length] at hw
      rw [cut_whole hw]
      exact r
    · rename_i s _
      cases e
      exact .inr ⟨s, rx.1, rx.2.2, q H _ (fun _ _ h => h) ⟨rfl, strOk_cut rx.2⟩⟩
    · cases e
theorem d_slice {e : Expr} {lo hi : Option Expr} {fx : Fx D} {fl fh : Fx (Option Int)} {p2 pos : Pos} (hk : g.K = X.K) (he : PE X e (tE g fx)) (hl : PO X lo (tO g fl)) (hu : PO X hi (tO g fh)) :
    PE X (.Subscript e (.Slice lo hi none p2) pos) (tE g (fSl fx fl fh)) := by
  refine PE.imp (pe_slice sl_M he hl hu) fun σ H Q h => ?_
  rw [← hk]
  obtain ⟨ρ, M, η, hr, er, h⟩ := h
  refine ⟨ρ, M, η, hr, er, h.bind.mono fun x M1 H1 ρ1 s1 hr1 h1 u ru => ?_⟩
  refine ⟨ρ1, M1, η, hr1, er.mono s1.toExt hr, h1.bind.mono fun l M2 H2 ρ2 s2 hr2 h2 => ?_⟩
  refine ⟨ρ2, M2, η, hr2, (er.mono s1.toExt hr).mono s2.toExt hr1, h2.bind.mono fun hh M3 H3 ρ3 s3 hr3 h3 => ?_⟩
  obtain ⟨z, ez, q⟩ := post_opt hr3 h3
  exact o_sl ez hr3 ((ru.mono s2.toExt hr1 x u).mono s3.toExt hr2 x u) q
end

/-! ### truth -/
def tru (M : MS) (x : D) : Option Bool := match x with
  | .non => some false
  | .bl b => some b
  | .int i => some (i != 0)
  | .str s => some ((s.length : Int) != 0)
  | _ => match lsOf M x with
    | some xs => some (!xs.isEmpty)
    | none => match tpOf x with
      | some xs => some (!xs.isEmpty)
      | none => none
def fTru (f : Fx D) : Fx Bool := fun η M => bindR (f η M) fun x M1 => match tru M1 x with
  | some b => .ok b M1
  | none => .fail
theorem isEmpty_rel {K : PySem.W.Frag} {H : Hp} {ρ : RS} {xs : List D} {vs : List V} (r : Rels K H ρ xs vs) : vs.isEmpty = xs.isEmpty := by
  have := r.length
  cases xs <;> cases vs <;> simp_all
theorem tru_rel {K : PySem.W.Frag} {H : Hp} {ρ : RS} {M : MS} {x : D} {b : Bool} {u : V} (hr : HR K H ρ M) (e : tru M x = some b) (r : Rel K H ρ x u) : TruV K u H b := by
  have seq : (match lsOf M x with
    | some xs => some (!xs.isEmpty)
    | none => match tpOf x with
      | some xs => some (!xs.isEmpty)
      | none => none) = some b → TruV K u H b := fun e => by
    split at e
    · rename_i xs hx
      cases e
      obtain ⟨a, vs, rfl, hs, r⟩ := ls_rel hr hx r
      exact .inl ⟨vs, hs, by rw [isEmpty_rel r]⟩
    · split at e
      · rename_i xs hx
        cases e
        obtain ⟨a, vs, rfl, hs, r⟩ := tp_rel hx r
        exact .inr (.inl ⟨vs, hs, by rw [isEmpty_rel r]⟩)
      · cases e
  cases x with
  | non => rw [show u = _ from r]; exact (Option.some.inj e).symm
  | bl c => rw [show u = _ from r]; exact (Option.some.inj e).symm
  | int i => rw [show u = _ from r]; exact (Option.some.inj e).symm
  | str s => rw [show u = _ from r.1]; exact ⟨r.2.2, (Option.some.inj e).symm⟩
  | _ => exact seq e
/-! tests -/
def tBl (f : Fx D) : Fx Bool := fun η M => bindR (f η M) fun x M1 => match x with
  | .bl b => .ok b M1
  | _ => .fail
def tAndF (f h : Fx Bool) : Fx Bool := fun η M => bindR (f η M) fun b M1 => if b = true then h η M1 else .ok false M1
def tOrF (f h : Fx Bool) : Fx Bool := fun η M => bindR (f η M) fun b M1 => if b = true then .ok true M1 else h η M1
def tNotF (f : Fx Bool) : Fx Bool := fun η M => bindR (f η M) fun b M1 => .ok (!b) M1
def fAnd (f h : Fx D) : Fx D := fun η M => bindR (f η M) fun x M1 => match tru M1 x with
  | some true => h η M1
  | some false => .ok x M1
  | none => .fail
def fOr (f h : Fx D) : Fx D := fun η M => bindR (f η M) fun x M1 => match tru M1 x with
  | some true => .ok x M1
  | some false => h η M1
  | none => .fail
def fNot (f : Fx D) : Fx D := fun η M => bindR (f η M) fun x M1 => match tru M1 x with
  | some b => .ok (.bl (!b)) M1
  | none => .fail
def fIf (c : Fx Bool) (f h : Fx D) : Fx D := fun η M => bindR (c η M) fun b M1 => if b = true then f η M1 else h η M1
def fChain (φ ψ : D → D → MS → Option D) (fa fb fc : Fx D) : Fx D := fun η M => bindR (fa η M) fun x M1 => bindR (fb η M1) fun y M2 => match φ x y M2 with
  | some (.bl true) => bindR (fc η M2) fun z M3 => optR (ψ y z M3) M3
  | some (.bl false) => .ok (.bl false) M2
  | _ => .fail
section
variable {X : Cx} {g : GW} {a b c : Expr} {rest : List Expr} {f h fa fb fc : Fx D} {t u : Fx Bool} {pos : Pos}
theorem dt_truth (hk : g.K = X.K) (ha : PE X a (tE g f)) (he : ∀ whole, isTrue a X.env whole = (do let v ← whole; standAt a.pos; holding [v] (truthy v))) : PT X a (tT g (fTru f)) := by
  refine PT.imp (pt_truth ha he) fun σ H Q h => ?_
  rw [← hk]
  obtain ⟨ρ, M, η, hr, er, h⟩ := h
  refine ⟨ρ, M, η, hr, er, h.bind.mono fun x M1 H1 ρ1 s1 hr1 h1 u ru => ?_⟩
  split at h1
  · rename_i b hb
    exact ⟨b, tru_rel hr1 hb ru, h1 H1 ρ1 (Step.refl H1 ρ1) hr1⟩
  · exact h1.elim
/-- what tells True or False, as a test -/
theorem tb_of {σ : L2.St} {H : Hp} {Q : Bool → Hp → Prop} (q : tT g (tBl f) σ H Q) : tTest (tE g f) σ H Q := by
  obtain ⟨ρ, M, η, hr, er, q⟩ := q
  refine ⟨ρ, M, η, hr, er, q.bind.mono fun x M1 H1 ρ1 s1 hr1 h1 u ru => ?_⟩
  cases x with
  | bl k => exact ⟨k, ru, h1 H1 ρ1 (Step.refl H1 ρ1) hr1⟩
  | _ => exact h1.elim
theorem dt_not (ha : PT X a (tT g t)) : PT X (.UnaryOp .Not a pos) (tT g (tNotF t)) := by
  refine PT.imp (pt_not ha) fun σ H Q h => ?_
  obtain ⟨ρ, M, η, hr, er, h⟩ := h
  exact ⟨ρ, M, η, hr, er, h.bind.mono fun x M1 H1 ρ1 s1 hr1 h1 => h1 H1 ρ1 (Step.refl H1 ρ1) hr1⟩
theorem dw_and (ha : PT X a (tT g t)) (hb : PW X (.BoolOp .And (b :: rest) pos) (tT g u)) : PW X (.BoolOp .And (a :: b :: rest) pos) (tT g (tAndF t u)) := by
  refine PW.imp (pw_and ha hb) fun σ H Q h => ?_
  obtain ⟨ρ, M, η, hr, er, h⟩ := h
  refine ⟨ρ, M, η, hr, er, h.bind.mono fun x M1 H1 ρ1 s1 hr1 h1 => ?_⟩
  split at h1
  · rw [if_pos (by assumption)]
    exact ⟨ρ1, M1, η, hr1, er.mono s1.toExt hr, h1⟩
  · rw [if_neg (by assumption)]
    exact h1 H1 ρ1 (Step.refl H1 ρ1) hr1
theorem dw_or (ha : PT X a (tT g t)) (hb : PW X (.BoolOp .Or (b :: rest) pos) (tT g u)) : PW X (.BoolOp .Or (a :: b :: rest) pos) (tT g (tOrF t u)) := by
  refine PW.imp (pw_or ha hb) fun σ H Q h => ?_
  obtain ⟨ρ, M, η, hr, er, h⟩ := h
  refine ⟨ρ, M, η, hr, er, h.bind.mono fun x M1 H1 ρ1 s1 hr1 h1 => ?_⟩
  split at h1
  · rw [if_pos (by assumption)]
    exact h1 H1 ρ1 (Step.refl H1 ρ1) hr1
  · rw [if_neg (by assumption)]
    exact ⟨ρ1, M1, η, hr1, er.mono s1.toExt hr, h1⟩
theorem d_and (hk : g.K = X.K) (ha : PE X a (tE g f)) (hb : PE X (.BoolOp .And (b :: rest) pos) (tE g h)) : PE X (.BoolOp .And (a :: b :: rest) pos) (tE g (fAnd f h)) := by
  refine PE.imp (pe_andT ha hb) fun σ H Q h => ?_
  rw [← hk]
  obtain ⟨ρ, M, η, hr, er, h⟩ := h
  refine ⟨ρ, M, η, hr, er, h.bind.mono fun x M1 H1 ρ1 s1 hr1 h1 u ru => ?_⟩
  split at h1
  · rename_i e
    refine ⟨true, tru_rel hr1 e ru, ?_⟩
    rw [if_pos rfl]
    exact ⟨ρ1, M1, η, hr1, er.mono s1.toExt hr, h1⟩
  · rename_i e
    refine ⟨false, tru_rel hr1 e ru, ?_⟩
    rw [if_neg Bool.false_ne_true]
    exact h1 H1 ρ1 (Step.refl H1 ρ1) hr1 u ru
  · exact h1.elim
theorem d_or (hk : g.K = X.K) (ha : PE X a (tE g f)) (hb : PE X (.BoolOp .Or (b :: rest) pos) (tE g h)) : PE X (.BoolOp .Or (a :: b :: rest) pos) (tE g (fOr f h)) := by
  refine PE.imp (pe_orT ha hb) fun σ H Q h => ?_
  rw [← hk]
  obtain ⟨ρ, M, η, hr, er, h⟩ := h
  refine ⟨ρ, M, η, hr, er, h.bind.mono fun x M1 H1 ρ1 s1 hr1 h1 u ru => ?_⟩
  split at h1
  · rename_i e
    refine ⟨true, tru_rel hr1 e ru, ?_⟩
    rw [if_pos rfl]
    exact h1 H1 ρ1 (Step.refl H1 ρ1) hr1 u ru
  · rename_i e
    refine ⟨false, tru_rel hr1 e ru, ?_⟩
    rw [if_neg Bool.false_ne_true]
    exact ⟨ρ1, M1, η, hr1, er.mono s1.toExt hr, h1⟩
  · exact h1.elim
theorem d_not (hk : g.K = X.K) (ha : PE X a (tE g f)) : PE X (.UnaryOp .Not a pos) (tE g (fNot f)) := by
  refine PE.imp (pe_notT ha) fun σ H Q h => ?_
  rw [← hk]
  obtain ⟨ρ, M, η, hr, er, h⟩ := h
  refine ⟨ρ, M, η, hr, er, h.bind.mono fun x M1 H1 ρ1 s1 hr1 h1 u ru => ?_⟩
  split at h1
  · rename_i b e
    exact ⟨b, tru_rel hr1 e ru, h1 H1 ρ1 (Step.refl H1 ρ1) hr1 _ rfl⟩
  · exact h1.elim
theorem d_if (hc : PT X c (tT g t)) (ha : PE X a (tE g f)) (hb : PE X b (tE g h)) : PE X (.IfExp c a b pos) (tE g (fIf t f h)) := by
  refine PE.imp (pe_ifExp hc ha hb) fun σ H Q h => ?_
  obtain ⟨ρ, M, η, hr, er, h⟩ := h
  refine ⟨ρ, M, η, hr, er, h.bind.mono fun x M1 H1 ρ1 s1 hr1 h1 => ?_⟩
  split at h1
  · rw [if_pos (by assumption)]
    exact ⟨ρ1, M1, η, hr1, er.mono s1.toExt hr, h1⟩
  · rw [if_neg (by assumption)]
    exact ⟨ρ1, M1, η, hr1, er.mono s1.toExt hr, h1⟩
theorem t_chain {φ ψ : D → D → MS → Option D} {r r' : R2} {σ : L2.St} {H : Hp} {Q : VK} (ho : Op2 g.K φ r) (ho' : Op2 g.K ψ r') (h : tE g (fChain φ ψ fa fb fc) σ H Q) : tChain r r' (tE g fa) (tE g fb) (tE g fc) σ H Q := by
  obtain ⟨ρ, M, η, hr, er, h⟩ := h
  refine ⟨ρ, M, η, hr, er, h.bind.mono fun x M1 H1 ρ1 s1 hr1 h1 u ru => ?_⟩
  have er1 := er.mono s1.toExt hr
  refine ⟨ρ1, M1, η, hr1, er1, h1.bind.mono fun y M2 H2 ρ2 s2 hr2 h2 v rv => ?_⟩
  have er2 := er1.mono s2.toExt hr1
  split at h2
  · rename_i e
    refine ho x y _ M2 H2 ρ2 u v _ e hr2 (ru.mono s2.toExt hr1 x u) rv fun H' w k rw' => ?_
    have hw : w = .bl true := rw'
    refine ⟨true, hw, ?_⟩
    rw [if_pos rfl]
    have s' : Step H2 ρ2 H' ρ2 := Step.ext hr2 k
    have hr' := hr2.ext k
    refine ⟨ρ2, M2, η, hr', er2.mono s'.toExt hr2, (h2.from s' hr').bind.mono fun z M3 H3 ρ3 s3 hr3 h3 w ru3 => ?_⟩
    obtain ⟨zz, ez, q⟩ := post_opt hr3 h3
    exact ho' y z zz M3 H3 ρ3 v w Q ez hr3 ((rv.mono s'.toExt hr2 y v).mono s3.toExt hr' y v) ru3 q
  · rename_i e
    refine ho x y _ M2 H2 ρ2 u v _ e hr2 (ru.mono s2.toExt hr1 x u) rv fun H' w k rw' => ?_
    have hw : w = .bl false := rw'
    refine ⟨false, hw, ?_⟩
    rw [if_neg Bool.false_ne_true]
    exact h2 H' ρ2 (Step.ext hr2 k) (hr2.ext k) _ rfl
  · exact h2.elim
end
end NV
end
section
set_option Elab.async false
set_option linter.all false
set_option maxRecDepth 100000
set_option maxHeartbeats 4000000
set_option autoImplicit false
namespace NV
open PySem PySem.Spec L2

/-! ### statements -/
inductive SRes where
  | nx (η : Nv) (M : MS) | ret (d : D) (M : MS) | bk (η : Nv) (M : MS) | ct (η : Nv) (M : MS) | exc (x : Ex) (η : Nv) (M : MS) | fail
abbrev Sx := Nv → MS → SRes
def PostS (g : GW) (H : Hp) (ρ : RS) (E : Ends) : SRes → Prop
  | .nx η M => ∀ σ' H' ρ', Step H ρ H' ρ' → HR g.K H' ρ' M → ER g.K H' ρ' η σ' → E.nx σ' H'
  | .bk η M => ∀ σ' H' ρ', Step H ρ H' ρ' → HR g.K H' ρ' M → ER g.K H' ρ' η σ' → E.bk σ' H'
  | .ct η M => ∀ σ' H' ρ', Step H ρ H' ρ' → HR g.K H' ρ' M → ER g.K H' ρ' η σ' → E.ct σ' H'
  | .ret d M => ∀ v H' ρ', Step H ρ H' ρ' → HR g.K H' ρ' M → Rel g.K H' ρ' d v → E.rt v H'
  | .exc x η M => ∀ cls dd σ' H' ρ', Step H ρ H' ρ' → HR g.K H' ρ' M → ER g.K H' ρ' η σ' → XR g.K g.cl H' ρ' x cls dd → g.W cls dd σ' H'
  | .fail => False
def tS (g : GW) (f : Sx) : TS := fun E σ H => ∃ ρ M η, HR g.K H ρ M ∧ ER g.K H ρ η σ ∧ PostS g H ρ E (f η M)
def bindS {α : Type} (r : Res α) (η : Nv) (k : α → MS → SRes) : SRes := match r with
  | .ok a M => k a M
  | .exc x M => .exc x η M
  | .fail => .fail
def thenS (r : SRes) (k : Sx) : SRes := match r with
  | .nx η M => k η M
  | r => r
section
variable {g : GW} {H H0 : Hp} {ρ ρ0 : RS} {E E' : Ends} {σ : L2.St} {M : MS} {η : Nv} {α : Type}
theorem PostS.from {r : SRes} (h : PostS g H0 ρ0 E r) (s0 : Step H0 ρ0 H ρ) (q0 : HR g.K H ρ M) : PostS g H ρ E r := by
  cases r with
  | nx η M' => exact fun σ' H' ρ' s q => h σ' H' ρ' (s0.trans s q0) q
  | bk η M' => exact fun σ' H' ρ' s q => h σ' H' ρ' (s0.trans s q0) q
  | ct η M' => exact fun σ' H' ρ' s q => h σ' H' ρ' (s0.trans s q0) q
  | ret d M' => exact fun v H' ρ' s q => h v H' ρ' (s0.trans s q0) q
  | exc x η M' => exact fun cls dd σ' H' ρ' s q => h cls dd σ' H' ρ' (s0.trans s q0) q
  | fail => exact h
/-- an expression ahead -/
theorem PostS.bind {r : Res α} {k : α → MS → SRes} (er : ER g.K H ρ η σ) (hr : HR g.K H ρ M) (h : PostS g H ρ E (bindS r η k)) : Post g σ H ρ (fun a M1 H1 ρ1 => PostS g H1 ρ1 E (k a M1)) r := by
  cases r with
  | ok a M' => exact fun H' ρ' s q => PostS.from (H0 := H) (ρ0 := ρ) h s q
  | exc x M' => exact fun cls dd H' ρ' s q xr => h cls dd σ H' ρ' s q (er.mono s.toExt hr) xr
  | fail => exact h
theorem PostS.seq {r : SRes} {k : Sx} (h : PostS g H ρ E (thenS r k)) : PostS g H ρ { E with nx := tS g k E } r := by
  cases r with
  | nx η M' => exact fun σ' H' ρ' s q er => ⟨ρ', M', η, q, er, PostS.from (H0 := H) (ρ0 := ρ) h s q⟩
  | bk η M' => exact h
  | ct η M' => exact h
  | ret d M' => exact h
  | exc x η M' => exact h
  | fail => exact h
end
/-- behind a loop's body: the next turn is k -/
def turnS (r : SRes) (k : Sx) : SRes := match r with
  | .nx η M => k η M
  | .ct η M => k η M
  | .bk η M => .nx η M
  | r => r
section
variable {g : GW} {H H' : Hp} {ρ ρ' : RS} {E : Ends} {M : MS} {η : Nv}
/-- a loop's body: what is wanted behind a turn -/
theorem PostS.turn {r : SRes} {k : Sx} {N : L2.St → Hp → Prop} (h : PostS g H ρ E (turnS r k)) (hN : ∀ σ' H' ρ' M' η', Step H ρ H' ρ' → HR g.K H' ρ' M' → ER g.K H' ρ' η' σ' → PostS g H' ρ' E (k η' M') → N σ' H') :
    PostS g H ρ { E with nx := N, ct := N, bk := E.nx } r := by
  cases r with
  | nx η' M' => exact fun σ' H' ρ' s q er => hN σ' H' ρ' M' η' s q er (PostS.from (H0 := H) (ρ0 := ρ) h s q)
  | ct η' M' => exact fun σ' H' ρ' s q er => hN σ' H' ρ' M' η' s q er (PostS.from (H0 := H) (ρ0 := ρ) h s q)
  | bk η' M' => exact h
  | ret d M' => exact h
  | exc x η' M' => exact h
  | fail => exact h
end
def sPass : Sx := fun η M => .nx η M
def sBrk : Sx := fun η M => .bk η M
def sCnt : Sx := fun η M => .ct η M
def sSeq (f h : Sx) : Sx := fun η M => thenS (f η M) h
def sExpr (f : Fx D) : Sx := fun η M => bindS (f η M) η fun _ M1 => .nx η M1
def sRet (f : Fx D) : Sx := fun η M => bindS (f η M) η fun d M1 => .ret d M1
def sRetN : Sx := fun _ M => .ret .non M
def sIf (c : Fx Bool) (a b : Sx) : Sx := fun η M => bindS (c η M) η fun k M1 => if k = true then a η M1 else b η M1
def sSet (i : Nat) (f : Fx D) : Sx := fun η M => bindS (f η M) η fun d M1 => .nx (η.set i (some d)) M1
def sPar (i j : Nat) (f : Fx (List D)) : Sx := fun η M => bindS (f η M) η fun ds M1 => match ds with
  | [a, b] => .nx ((η.set i (some a)).set j (some b)) M1
  | _ => .fail
def sAug (i : Nat) (φ : D → D → MS → Option D) (f : Fx D) : Sx := fun η M => match η[i]? with
  | some (some x) => bindS (f η M) η fun y M1 => match φ x y M1 with
    | some z => .nx (η.set i (some z)) M1
    | none => .fail
  | _ => .fail
def sWhile (c : Fx Bool) (b : Sx) : Nat → Sx
  | 0, _, _ => .fail
  | n + 1, η, M => bindS (c η M) η fun k M1 => if k = true then turnS (b η M1) (sWhile c b n) else .nx η M1
section
variable {X : Cx} {g : GW} {e a b : Expr} {st : Stmt} {rest body sa sb : List Stmt} {f : Fx D} {fs : Fx (List D)} {c : Fx Bool} {u v : Sx} {pos pos' : Pos}
theorem ds_pass : PS X (.Pass pos) (tS g sPass) := PS.imp ps_pass fun E σ H ⟨ρ, M, η, hr, er, h⟩ => h σ H ρ (Step.refl H ρ) hr er
theorem ds_break : PS X (.Break pos) (tS g sBrk) := PS.imp ps_break fun E σ H ⟨ρ, M, η, hr, er, h⟩ => h σ H ρ (Step.refl H ρ) hr er
theorem ds_continue : PS X (.Continue pos) (tS g sCnt) := PS.imp ps_continue fun E σ H ⟨ρ, M, η, hr, er, h⟩ => h σ H ρ (Step.refl H ρ) hr er
theorem ds_doc {x : Str} {j : Nat} : PS X (.Expr (.Constant (.str x) j pos) pos') (tS g sPass) := PS.imp ps_doc fun E σ H ⟨ρ, M, η, hr, er, h⟩ => h σ H ρ (Step.refl H ρ) hr er
theorem dss_nil : PSs X [] (tS g sPass) := PSs.imp pss_nil fun E σ H ⟨ρ, M, η, hr, er, h⟩ => h σ H ρ (Step.refl H ρ) hr er
theorem dss_one (h : PS X st (tS g u)) : PSs X [st] (tS g u) := pss_one h
theorem dss_cons (h1 : PS X st (tS g u)) (h2 : PSs X rest (tS g v)) : PSs X (st :: rest) (tS g (sSeq u v)) :=
  PSs.imp (pss_cons h1 h2) fun E σ H ⟨ρ, M, η, hr, er, h⟩ => ⟨ρ, M, η, hr, er, h.seq⟩
theorem ds_expr (he : PE X e (tE g f)) (hs : swapsWith e none pos.line X.env = pure false) : PS X (.Expr e pos) (tS g (sExpr f)) :=
  PS.imp (ps_expr he hs) fun E σ H ⟨ρ, M, η, hr, er, h⟩ => ⟨ρ, M, η, hr, er, (h.bind er hr).mono fun d M1 H1 ρ1 s1 hr1 h1 v rv => h1 σ H1 ρ1 (Step.refl H1 ρ1) hr1 (er.mono s1.toExt hr)⟩
theorem ds_ret (he : PE X e (tE g f)) : PS X (.Return (some e) pos) (tS g (sRet f)) :=
  PS.imp (ps_ret he) fun E σ H ⟨ρ, M, η, hr, er, h⟩ => ⟨ρ, M, η, hr, er, (h.bind er hr).mono fun d M1 H1 ρ1 s1 hr1 h1 v rv => h1 v H1 ρ1 (Step.refl H1 ρ1) hr1 rv⟩
theorem ds_retN : PS X (.Return none pos) (tS g sRetN) := PS.imp ps_retN fun E σ H ⟨ρ, M, η, hr, er, h⟩ => h .non H ρ (Step.refl H ρ) hr rfl
theorem ds_if {t : Expr} (hc : PT X t (tT g c)) (ha : PSs X sa (tS g u)) (hb : PSs X sb (tS g v)) : PS X (.If t sa sb pos) (tS g (sIf c u v)) :=
  PS.imp (ps_if hc ha hb) fun E σ H ⟨ρ, M, η, hr, er, h⟩ => ⟨ρ, M, η, hr, er, (h.bind er hr).mono fun k M1 H1 ρ1 s1 hr1 h1 => by
    cases k with
    | true => rw [if_pos rfl] at h1; exact ⟨ρ1, M1, η, hr1, er.mono s1.toExt hr, h1⟩
    | false => rw [if_neg Bool.false_ne_true] at h1; exact ⟨ρ1, M1, η, hr1, er.mono s1.toExt hr, h1⟩⟩
theorem ds_set {i : Nat} {x : Str} (hN : X.N.Nodup) (hi : X.N[i]? = some x) (hx : Loc X.env.scope x) (he : PE X e (tE g f)) (hs : swapsWith e (some (.Name x pos')) pos.line X.env = pure false)
    (hf : X.fn x = true ∨ X.env.scope.names.lookup x = some .local) : PS X (.Assign [.Name x pos'] e pos) (tS g (sSet i f)) :=
  PS.imp (ps_set hN hi hx he hs hf) fun E σ H ⟨ρ, M, η, hr, er, h⟩ => ⟨ρ, M, η, hr, er, (h.bind er hr).mono fun d M1 H1 ρ1 s1 hr1 h1 v rv =>
    h1 _ H1 ρ1 (Step.refl H1 ρ1) hr1 ((er.mono s1.toExt hr).set rv)⟩
theorem t_par {i j : Nat} {E : Ends} {σ : L2.St} {H : Hp} (q : tS g (sPar i j fs) E σ H) : tPar i j (tA g fs) E σ H := by
  obtain ⟨ρ, M, η, hr, er, h⟩ := q
  refine ⟨ρ, M, η, hr, er, (h.bind er hr).mono fun ds M1 H1 ρ1 s1 hr1 h1 vs rv => ?_⟩
  match ds, rv, h1 with
  | [a, b], rv, h1 =>
    obtain ⟨v, r, rfl, ra, w, r', rfl, rb, e⟩ := rv
    have e : r' = [] := e
    subst e
    exact ⟨v, w, rfl, h1 _ H1 ρ1 (Step.refl H1 ρ1) hr1 (((er.mono s1.toExt hr).set ra).set rb)⟩
  | [], rv, h1 => exact h1.elim
  | [a], rv, h1 => exact h1.elim
  | a :: b :: c :: r, rv, h1 => exact h1.elim
theorem t_aug {i : Nat} {φ : D → D → MS → Option D} {r : TIp} {E : Ends} {σ : L2.St} {H : Hp} (ho : Op2 g.K φ r) (q : tS g (sAug i φ f) E σ H) : tAug i (tE g f) r E σ H := by
  obtain ⟨ρ, M, η, hr, er, h⟩ := q
  unfold sAug at h
  split at h
  · rename_i x ex
    obtain ⟨vx, e1, rx⟩ := er.2 i x ex
    refine ⟨vx, e1, ρ, M, η, hr, er, (h.bind er hr).mono fun y M1 H1 ρ1 s1 hr1 h1 vy ry => ?_⟩
    split at h1
    · rename_i z ez
      refine ho x y z M1 H1 ρ1 vx vy _ ez hr1 (rx.mono s1.toExt hr x vx) ry fun H' w k rw' => ?_
      have s' : Step H1 ρ1 H' ρ1 := Step.ext hr1 k
      exact h1 _ H' ρ1 s' (hr1.ext k) (((er.mono s1.toExt hr).mono s'.toExt hr1).set rw')
    · exact h1.elim
  · exact h.elim
theorem ds_while {t : Expr} (n : Nat) (hp : PassesOwn (model X.prog X.w) X.A X.env X.xe) (hc : PT X t (tT g c)) (hb : PSs X body (tS g u)) : PS X (.While t body [] pos) (tS g (sWhile c u n)) := by
  refine PS.imp (ps_while hp hc hb) fun E σ H h => ?_
  refine ⟨fun m σ H => tS g (sWhile c u m) E σ H, ⟨n, h⟩, fun m σ H q => ?_⟩
  obtain ⟨ρ, M, η, hr, er, q⟩ := q
  cases m with
  | zero => exact q.elim
  | succ m =>
    refine ⟨ρ, M, η, hr, er, (PostS.bind er hr q).mono fun k M1 H1 ρ1 s1 hr1 h1 => ?_⟩
    have er1 := er.mono s1.toExt hr
    cases k with
    | false =>
      rw [if_neg Bool.false_ne_true] at h1
      show E.nx σ H1
      exact h1 σ H1 ρ1 (Step.refl H1 ρ1) hr1 er1
    | true =>
      rw [if_pos rfl] at h1
      refine ⟨tS g (sWhile c u m) E, fun σ' H' q' => ⟨m, Nat.lt_succ_self m, q'⟩, ρ1, M1, η, hr1, er1, ?_⟩
      exact h1.turn fun σ' H' ρ' M' η' s q er' p => ⟨ρ', M', η', q, er', p⟩
end

/-! ### targets -/
abbrev Gx := D → Sx
/-- the same but at ts -/
def SB (ts : List Nat) (σ σ' : L2.St) : Prop := σ'.length = σ.length ∧ ∀ i, i ∉ ts → σ'[i]? = σ[i]?
def PostG (g : GW) (σ : L2.St) (ts : List Nat) (H : Hp) (ρ : RS) (Q : L2.St → Hp → Prop) : SRes → Prop
  | .nx η M => ∀ σ' H' ρ', Step H ρ H' ρ' → HR g.K H' ρ' M → ER g.K H' ρ' η σ' → SB ts σ σ' → Q σ' H'
  | .exc x η M => ∀ cls dd σ' H' ρ', Step H ρ H' ρ' → HR g.K H' ρ' M → ER g.K H' ρ' η σ' → XR g.K g.cl H' ρ' x cls dd → g.W cls dd σ' H'
  | _ => False
def tG (g : GW) (ts : List Nat) (f : Gx) : TG := fun v σ H Q => ∃ ρ M η d, HR g.K H ρ M ∧ ER g.K H ρ η σ ∧ Rel g.K H ρ d v ∧ PostG g σ ts H ρ Q (f d η M)
def tGs (g : GW) (ts : List Nat) (f : List D → Sx) : TGs := fun vs σ H Q => ∃ ρ M η ds, HR g.K H ρ M ∧ ER g.K H ρ η σ ∧ Rels g.K H ρ ds vs ∧ PostG g σ ts H ρ Q (f ds η M)
theorem SB.refl (ts : List Nat) (σ : L2.St) : SB ts σ σ := ⟨rfl, fun _ _ => rfl⟩
theorem SB.set (i : Nat) (σ : L2.St) (v : Option V) : SB [i] σ (σ.set i v) := ⟨List.length_set, fun j hj => List.getElem?_set_ne (fun e => hj (by simp [e]))⟩
theorem SB.trans {t1 t2 : List Nat} {a b c : L2.St} (h : SB t1 a b) (h' : SB t2 b c) : SB (t1 ++ t2) a c :=
  ⟨h'.1.trans h.1, fun i hi => (h'.2 i fun z => hi (List.mem_append_right _ z)).trans (h.2 i fun z => hi (List.mem_append_left _ z))⟩
/-- behind a target -/
def thenG (r : SRes) (k : Sx) : SRes := match r with
  | .nx η M => k η M
  | .exc x η M => .exc x η M
  | _ => .fail
def xName (i : Nat) : Gx := fun d η M => .nx (η.set i (some d)) M
def xNil : List D → Sx := fun ds η M => match ds with
  | [] => .nx η M
  | _ => .fail
def xCons (f : Gx) (h : List D → Sx) : List D → Sx := fun ds η M => match ds with
  | d :: r => thenG (f d η M) (h r)
  | [] => .fail
def xTup (n : Nat) (h : List D → Sx) : Gx := fun d η M => match tpOf d with
  | some xs => if xs.length = n then h xs η M else .fail
  | none => .fail
def sAsg (f : Fx D) (t : Gx) : Sx := fun η M => bindS (f η M) η fun d M1 => thenG (t d η M1) sPass
section
variable {g : GW} {H H0 : Hp} {ρ ρ0 : RS} {Q : L2.St → Hp → Prop} {M : MS} {σ : L2.St} {ts ts' : List Nat}
theorem PostG.from {r : SRes} (h : PostG g σ ts H0 ρ0 Q r) (s0 : Step H0 ρ0 H ρ) (q0 : HR g.K H ρ M) : PostG g σ ts H ρ Q r := by
  cases r with
  | nx η M' => exact fun σ' H' ρ' s q => h σ' H' ρ' (s0.trans s q0) q
  | exc x η M' => exact fun cls dd σ' H' ρ' s q => h cls dd σ' H' ρ' (s0.trans s q0) q
  | _ => exact h
theorem PostG.rebase {r : SRes} {σ' : L2.St} (h : PostG g σ (ts ++ ts') H ρ Q r) (b : SB ts σ σ') : PostG g σ' ts' H ρ Q r := by
  cases r with
  | nx η M' => exact fun σ2 H' ρ' s q er b2 => h σ2 H' ρ' s q er (b.trans b2)
  | exc x η M' => exact h
  | _ => exact h
theorem PostG.thenG {r : SRes} {k : Sx} {Q' : L2.St → Hp → Prop} (h : PostG g σ (ts ++ ts') H ρ Q (NV.thenG r k)) (hN : ∀ σ' H' ρ' M' η', Step H ρ H' ρ' → HR g.K H' ρ' M' → ER g.K H' ρ' η' σ' → PostG g σ' ts' H' ρ' Q (k η' M') → Q' σ' H') : PostG g σ ts H ρ Q' r := by
  cases r with
  | nx η' M' => exact fun σ' H' ρ' s q er b => hN σ' H' ρ' M' η' s q er ((PostG.from (H0 := H) (ρ0 := ρ) h s q).rebase b)
  | exc x η' M' => exact h
  | _ => exact h.elim
theorem PostS.thenG {E : Ends} {r : SRes} {k : Sx} {Q' : L2.St → Hp → Prop} (h : PostS g H ρ E (NV.thenG r k)) (hN : ∀ σ' H' ρ' M' η', Step H ρ H' ρ' → HR g.K H' ρ' M' → ER g.K H' ρ' η' σ' → PostS g H' ρ' E (k η' M') → Q' σ' H') : PostG g σ ts H ρ Q' r := by
  cases r with
  | nx η' M' => exact fun σ' H' ρ' s q er _ => hN σ' H' ρ' M' η' s q er (PostS.from (H0 := H) (ρ0 := ρ) h s q)
  | exc x η' M' => exact h
  | _ => exact h.elim
theorem PostG.bind {α : Type} {r : Res α} {η : Nv} {k : α → MS → SRes} (er : ER g.K H ρ η σ) (hr : HR g.K H ρ M) (h : PostG g σ ts H ρ Q (bindS r η k)) : Post g σ H ρ (fun a M1 H1 ρ1 => PostG g σ ts H1 ρ1 Q (k a M1)) r := by
  cases r with
  | ok a M' => exact fun H' ρ' s q => PostG.from (H0 := H) (ρ0 := ρ) h s q
  | exc x M' => exact fun cls dd H' ρ' s q xr => h cls dd σ H' ρ' s q (er.mono s.toExt hr) xr
  | fail => exact h
end
section
variable {X : Cx} {g : GW} {e : Expr} {es : List Expr} {f : Gx} {h : List D → Sx} {te : Fx D} {pos : Pos} {ts ts' : List Nat}
theorem PG.imp {t t' : TG} (h : PG X e t) (k : ∀ v σ H Q, t' v σ H Q → t v σ H Q) : PG X e t' := ⟨fun pins s σ H v u Q I r q => h.run pins s σ H v u Q I r (k v σ H Q q)⟩
theorem PGs.imp {t t' : TGs} (h : PGs X es t) (k : ∀ v σ H Q, t' v σ H Q → t v σ H Q) : PGs X es t' := ⟨fun pins s σ H v u Q I r q => h.run pins s σ H v u Q I r (k v σ H Q q)⟩
theorem dg_name {i : Nat} {x : Str} (hN : X.N.Nodup) (hi : X.N[i]? = some x) (hx : Loc X.env.scope x) (hf : X.fn x = true ∨ X.env.scope.names.lookup x = some .local) : PG X (.Name x pos) (tG g [i] (xName i)) :=
  PG.imp (pg_name hN hi hx hf) fun v σ H Q ⟨ρ, M, η, d, hr, er, r, q⟩ => q _ H ρ (Step.refl H ρ) hr (er.set r) (SB.set i σ _)
theorem dgs_nil : PGs X [] (tGs g [] xNil) := PGs.imp pgs_nil fun vs σ H Q ⟨ρ, M, η, ds, hr, er, r, q⟩ => by
  cases ds with
  | nil => exact ⟨r, q _ H ρ (Step.refl H ρ) hr er (SB.refl _ _)⟩
  | cons d r => exact q.elim
theorem dgs_cons (h1 : PG X e (tG g ts f)) (h2 : PGs X es (tGs g ts' h)) (hs : (assignEach (e :: es) X.env).map (·.2) = assign e X.env :: (assignEach es X.env).map (·.2)) : PGs X (e :: es) (tGs g (ts ++ ts') (xCons f h)) :=
  PGs.imp (pgs_cons h1 h2 hs) fun vs σ H Q ⟨ρ, M, η, ds, hr, er, r, q⟩ => by
    cases ds with
    | nil => exact q.elim
    | cons d ds =>
      obtain ⟨v, w, rfl, r1, r2⟩ := r
      refine ⟨v, w, rfl, ρ, M, η, d, hr, er, r1, ?_⟩
      exact PostG.thenG q fun σ' H' ρ' M' η' s q' er' p => ⟨ρ', M', η', ds, q', er', r2.mono s.toExt hr ds w, p⟩
theorem dg_tup {k : Nat} {n : Nat} (hk : g.K = X.K) (hc : X.calm = true) (hh : PGs X es (tGs g ts h)) (hn : (assignEach es X.env).length = n) (hst : (assignEach es X.env).findIdx? (·.1) = none) : PG X (.Tuple es k pos) (tG g ts (xTup n h)) :=
  PG.imp (pg_tup hc hh hn hst) fun v σ H Q ⟨ρ, M, η, d, hr, er, r, q⟩ => by
    unfold xTup at q
    split at q
    · rename_i xs hx
      split at q
      · rename_i hl
        obtain ⟨a, vs, rfl, hq, rs⟩ := tp_rel hx r
        exact ⟨a, vs, rfl, by rw [← hk]; exact hq, by rw [← rs.length]; exact hl, ρ, M, η, xs, hr, er, rs, q⟩
      · exact q.elim
    · exact q.elim
theorem ds_asg {tg : Expr} (he : PE X e (tE g te)) (hg : PG X tg (tG g ts f)) (hs : swapsWithSole [tg] e pos.line X.env = pure false) (hw : swappedStores [tg] e X.env = pure none)
    (h1 : (assignEach [tg] X.env).map (·.2) = [assign tg X.env]) : PS X (.Assign [tg] e pos) (tS g (sAsg te f)) :=
  PS.imp (ps_asg he hg hs hw h1) fun E σ H ⟨ρ, M, η, hr, er, h⟩ => ⟨ρ, M, η, hr, er, (h.bind er hr).mono fun d M1 H1 ρ1 s1 hr1 h1 v rv => ⟨ρ1, M1, η, d, hr1, er.mono s1.toExt hr, rv, PostS.thenG h1 fun σ' H' ρ' M' η' s q er' p => p σ' H' ρ' (Step.refl H' ρ') q er'⟩⟩
end

/-! ### writing -/
section
variable {K : PySem.W.Frag} {H : Hp} {ρ : RS} {M : MS} {n : Nat} {a : Addr} {o : MO} {u : HO}
theorem Ext.write (ha : a ∈ ρ.all) : Ext H ρ (upd H a u) ρ := ⟨⟨[], by simp⟩, fun _ h => .inl h, fun b o e hn => .inl (by rw [upd_ne (fun z => hn (by rw [z]; exact ha))]; exact e)⟩
theorem Step.write (hr : HR K H ρ M) (ha : a ∈ ρ.ids) : Step H ρ (upd H a u) ρ := ⟨Ext.write (List.mem_append_left _ ha), rfl, fun b hb => upd_ne fun z => (List.nodup_append.mp hr.nd).2.2 a ha b hb z.symm⟩
/-- the boxed object number n is another now -/
theorem HR.write (hr : HR K H ρ M) (ha : ρ.ids[n]? = some a) (h : ObR K (upd H a u) ρ a o) : HR K (upd H a u) ρ (M.set n o) := by
  have hm : a ∈ ρ.ids := List.mem_of_getElem? ha
  have nd := hr.nd
  have nd1 : ρ.ids.Nodup := (List.nodup_append.mp nd).1
  refine ⟨hr.nd, by rw [List.length_set]; exact hr.len, fun m ob e b q => ?_, fun b hb => ?_⟩
  · by_cases hmn : m = n
    · subst hmn
      rw [ha] at q; cases q
      have hl : m < M.length := by rw [← hr.len]; exact (List.getElem?_eq_some_iff.mp ha).1
      rw [List.getElem?_set_self hl] at e
      cases e
      exact h
    · rw [List.getElem?_set_ne (Ne.symm hmn)] at e
      have hne : b ≠ a := fun z => by
        subst z
        obtain ⟨h1, e1⟩ := List.getElem?_eq_some_iff.mp q
        obtain ⟨h2, e2⟩ := List.getElem?_eq_some_iff.mp ha
        exact hmn ((List.getElem_inj nd1).mp (e1.trans e2.symm))
      exact (hr.at_ m ob e b q).mono (Ext.write (List.mem_append_left _ hm)) hr (upd_ne hne)
  · rw [upd_ne fun z => (List.nodup_append.mp nd).2.2 a hm b hb z.symm]
    exact hr.zl b hb
theorem ref_lst {xs : List D} {v : V} (hr : HR K H ρ M) (e : M[n]? = some (.lst xs)) (r : Rel K H ρ (.ref n) v) : ∃ a vs, v = .ref a ∧ ρ.ids[n]? = some a ∧ H a = some (.lst vs) ∧ Rels K H ρ xs vs := by
  obtain ⟨a, rfl, q, vs, h1, h2⟩ := ref_at hr e r
  exact ⟨a, vs, rfl, q, h1, h2⟩
theorem RelK.put {d : D} {v : V} {k : Key} (ho : ∀ s, k = .inr s → SOk s) (rd : Rel K H ρ d v) : ∀ {kvs : List (Key × D)} {us : List (Key × V)}, RelK K H ρ kvs us → RelK K H ρ (putD kvs k d) (putK us k v) := by
  intro kvs us h
  have len : ∀ {kvs : List (Key × D)} {us : List (Key × V)}, RelK K H ρ kvs us → (kvs.any fun kv => decide (kv.1 = k)) = (us.any fun kv => decide (kv.1 = k)) := by
    intro kvs
    induction kvs with
    | nil => intro us h; rw [show us = [] from h]; rfl
    | cons kv kvs ih =>
      intro us h
      obtain ⟨q, x⟩ := kv
      obtain ⟨w, r, rfl, _, _, h2⟩ := h
      simp [ih h2]
  have mp : ∀ {kvs : List (Key × D)} {us : List (Key × V)}, RelK K H ρ kvs us → RelK K H ρ (kvs.map (fun kv => if kv.1 = k then (kv.1, d) else kv)) (us.map (fun kv => if kv.1 = k then (kv.1, v) else kv)) := by
    intro kvs
    induction kvs with
    | nil => intro us h; rw [show us = [] from h]; rfl
    | cons kv kvs ih =>
      intro us h
      obtain ⟨q, x⟩ := kv
      obtain ⟨w, r, rfl, h0, h1, h2⟩ := h
      rw [List.map_cons, List.map_cons]
      by_cases hk : q = k
      · rw [if_pos hk, if_pos hk]
        exact ⟨v, _, rfl, h0, rd, ih h2⟩
      · rw [if_neg hk, if_neg hk]
        exact ⟨w, _, rfl, h0, h1, ih h2⟩
  have ap : ∀ {kvs : List (Key × D)} {us : List (Key × V)}, RelK K H ρ kvs us → RelK K H ρ (kvs ++ [(k, d)]) (us ++ [(k, v)]) := by
    intro kvs
    induction kvs with
    | nil => intro us h; rw [show us = [] from h]; exact ⟨v, [], rfl, ho, rd, rfl⟩
    | cons kv kvs ih =>
      intro us h
      obtain ⟨q, x⟩ := kv
      obtain ⟨w, r, rfl, h0, h1, h2⟩ := h
      exact ⟨w, r ++ [(k, v)], rfl, h0, h1, ih h2⟩
  unfold putD putK
  rw [len h]
  split
  · exact mp h
  · exact ap h
theorem RelT.put {d : D} {v : V} {k : List Key} (ho : ∀ s, (Sum.inr s : Key) ∈ k → SOk s) (rd : Rel K H ρ d v) : ∀ {kvs : List (List Key × D)} {us : List (List Key × V)}, RelT K H ρ kvs us → RelT K H ρ (putD kvs k d) (putK us k v) := by
  intro kvs us h
  have len : ∀ {kvs : List (List Key × D)} {us : List (List Key × V)}, RelT K H ρ kvs us → (kvs.any fun kv => decide (kv.1 = k)) = (us.any fun kv => decide (kv.1 = k)) := by
    intro kvs
    induction kvs with
    | nil => intro us h; rw [show us = [] from h]; rfl
    | cons kv kvs ih =>
      intro us h
      obtain ⟨q, x⟩ := kv
      obtain ⟨w, r, rfl, _, _, h2⟩ := h
      simp [ih h2]
  have mp : ∀ {kvs : List (List Key × D)} {us : List (List Key × V)}, RelT K H ρ kvs us → RelT K H ρ (kvs.map (fun kv => if kv.1 = k then (kv.1, d) else kv)) (us.map (fun kv => if kv.1 = k then (kv.1, v) else kv)) := by
    intro kvs
    induction kvs with
    | nil => intro us h; rw [show us = [] from h]; rfl
    | cons kv kvs ih =>
      intro us h
      obtain ⟨q, x⟩ := kv
      obtain ⟨w, r, rfl, h0, h1, h2⟩ := h
      rw [List.map_cons, List.map_cons]
      by_cases hk : q = k
      · rw [if_pos hk, if_pos hk]
        exact ⟨v, _, rfl, h0, rd, ih h2⟩
      · rw [if_neg hk, if_neg hk]
        exact ⟨w, _, rfl, h0, h1, ih h2⟩
  have ap : ∀ {kvs : List (List Key × D)} {us : List (List Key × V)}, RelT K H ρ kvs us → RelT K H ρ (kvs ++ [(k, d)]) (us ++ [(k, v)]) := by
    intro kvs
    induction kvs with
    | nil => intro us h; rw [show us = [] from h]; exact ⟨v, [], rfl, ho, rd, rfl⟩
    | cons kv kvs ih =>
      intro us h
      obtain ⟨q, x⟩ := kv
      obtain ⟨w, r, rfl, h0, h1, h2⟩ := h
      exact ⟨w, r ++ [(k, v)], rfl, h0, h1, ih h2⟩
  unfold putD putK
  rw [len h]
  split
  · exact mp h
  · exact ap h
end
end NV
end
section
set_option Elab.async false
set_option linter.all false
set_option maxRecDepth 100000
set_option maxHeartbeats 4000000
set_option autoImplicit false
namespace NV
open PySem PySem.Spec L2

/-! ### new lists -/
def OpL (K : PySem.W.Frag) (φ : List D → MS → Option (List D)) (r : List V → Hp → VK → Prop) : Prop := ∀ xs zs M H ρ us (Q : VK), φ xs M = some zs → HR K H ρ M → Rels K H ρ xs us →
  (∀ p ws, Rels K H ρ zs ws → H p = none → Q (.ref p) (upd H p (.lst ws))) → r us H Q
def Op2L (K : PySem.W.Frag) (φ : D → D → MS → Option (List D)) (r : R2) : Prop := ∀ x y zs M H ρ u v (Q : VK), φ x y M = some zs → HR K H ρ M → Rel K H ρ x u → Rel K H ρ y v →
  (∀ p ws, Rels K H ρ zs ws → H p = none → Q (.ref p) (upd H p (.lst ws))) → r u v H Q
def optL (o : Option (List D)) (M : MS) : Res (List D) := match o with
  | some z => .ok z M
  | none => .fail
def nN (φ : List D → MS → Option (List D)) (fa : Fx (List D)) : Fx (List D) := fun η M => bindR (fa η M) fun x M1 => optL (φ x M1) M1
def n2 (φ : D → D → MS → Option (List D)) (fa fb : Fx D) : Fx (List D) := fun η M => bindR (fa η M) fun x M1 => bindR (fb η M1) fun y M2 => optL (φ x y M2) M2
section
variable {g : GW} {σ : L2.St} {H H1 : Hp} {ρ ρ1 : RS} {M : MS} {Q : VK}
theorem PostN.from {r : Res (List D)} (h : PostN g σ H ρ Q r) (s : Step H ρ H1 ρ1) (hr : HR g.K H1 ρ1 M) : PostN g σ H1 ρ1 Q r := by
  cases r with
  | ok ds M' =>
    intro p vs H' ids' s' hp hr' hv rs
    have hz : ρ1.z = ρ.z := s.z
    rw [hz] at s' hr' rs
    exact h p vs H' ids' (s.trans s' hr) (s.back hr hp) hr' hv rs
  | exc x M' => exact fun cls dd H' ρ' s' q x => h cls dd H' ρ' (s.trans s' hr) q x
  | fail => exact h
theorem PostN.bind {α : Type} {r : Res α} {k : α → MS → Res (List D)} (h : PostN g σ H ρ Q (bindR r k)) : Post g σ H ρ (fun a M1 H1 ρ1 => PostN g σ H1 ρ1 Q (k a M1)) r := by
  cases r with
  | ok a M' => exact fun H' ρ' s q => PostN.from (H := H) (ρ := ρ) h s q
  | exc x M' => exact h
  | fail => exact h
theorem PostN.new {ds : List D} {p : Addr} {us : List V} (h : PostN g σ H ρ Q (.ok ds M)) (hr : HR g.K H ρ M) (ru : Rels g.K H ρ ds us) (hp : H p = none) : Q (.ref p) (upd H p (.lst us)) := by
  have s2 : Step H ρ (upd H p (.lst us)) ⟨ρ.ids, ρ.z⟩ := Step.ext hr (keep_new hp)
  exact h p us _ ρ.ids s2 hp (hr.reserve hp trivial) upd_same (Rels.mono (Ext.reserve hp) hr _ _ ru)
theorem PostN.opt {o : Option (List D)} (hr : HR g.K H ρ M) (h : PostN g σ H ρ Q (optL o M)) : ∃ zs, o = some zs ∧ ∀ p ws, Rels g.K H ρ zs ws → H p = none → Q (.ref p) (upd H p (.lst ws)) := by
  cases o with
  | none => exact h.elim
  | some zs => exact ⟨zs, rfl, fun p ws r hp => PostN.new h hr r hp⟩
theorem t_opL {r : List V → Hp → VK → Prop} {φ : List D → MS → Option (List D)} {fs : Fx (List D)} (ho : OpL g.K φ r) (h : tN g (nN φ fs) σ H Q) : tCB r (tA g fs) σ H Q := by
  obtain ⟨ρ, M, η, hr, er, h⟩ := h
  refine ⟨ρ, M, η, hr, er, h.bind.mono fun xs M1 H1 ρ1 s1 hr1 h1 us ru => ?_⟩
  obtain ⟨zs, ez, q⟩ := PostN.opt hr1 h1
  exact ho xs zs M1 H1 ρ1 us Q ez hr1 ru q
theorem t_op2L {r : R2} {φ : D → D → MS → Option (List D)} {fa fb : Fx D} (ho : Op2L g.K φ r) (h : tN g (n2 φ fa fb) σ H Q) : tOp r (tE g fa) (tE g fb) σ H Q := by
  obtain ⟨ρ, M, η, hr, er, h⟩ := h
  refine ⟨ρ, M, η, hr, er, h.bind.mono fun x M1 H1 ρ1 s1 hr1 h1 u ru => ?_⟩
  refine ⟨ρ1, M1, η, hr1, er.mono s1.toExt hr, h1.bind.mono fun y M2 H2 ρ2 s2 hr2 h2 v rv => ?_⟩
  obtain ⟨zs, ez, q⟩ := PostN.opt hr2 h2
  exact ho x y zs M2 H2 ρ2 u v Q ez hr2 (ru.mono s2.toExt hr1 x u) rv q
end
section
variable {X : Cx} {K : PySem.W.Frag}
theorem o_cat : Op2L K aCat rCat := by
  intro x y zs M H ρ u v Q e hr rx ry q
  unfold aCat at e
  split at e
  · rename_i xs ys ex ey
    split at e
    · rename_i hl
      cases e
      obtain ⟨a, us, rfl, ha, r1⟩ := lx_rel hr ex rx
      obtain ⟨b, vs, rfl, hb, r2⟩ := lx_rel hr ey ry
      exact ⟨a, b, us, vs, rfl, rfl, ha, hb, by rw [← r1.length, ← r2.length]; exact hl, fun p hp => q p _ (r1.append r2) hp⟩
    · cases e
  · cases e
theorem Rels.rep {H : Hp} {ρ : RS} {xs : List D} {us : List V} (r : Rels K H ρ xs us) : ∀ n : Nat, Rels K H ρ (List.replicate n xs).flatten (List.replicate n us).flatten
  | 0 => rfl
  | n + 1 => by
    rw [List.replicate_succ, List.replicate_succ, List.flatten_cons, List.flatten_cons]
    exact r.append (Rels.rep r n)
theorem o_rep : Op2L K aRep rRep := by
  intro x y zs M H ρ u v Q e hr rx ry q
  unfold aRep at e
  split at e
  · rename_i xs k ex
    split at e
    · rename_i hl
      cases e
      obtain ⟨a, us, rfl, ha, r1⟩ := lx_rel hr ex rx
      exact ⟨a, k, us, rfl, ry, ha, hl.2.1, hl.1, by rw [← r1.length]; exact hl.2.2, fun p hp => q p _ (r1.rep _) hp⟩
    · cases e
  · cases e
end

/-! ### built-in functions -/
def seqOf (M : MS) (x : D) : Option (List D) := match lsOf M x with
  | some xs => some xs
  | none => tpOf x
def lenD (M : MS) (x : D) : Option Nat := match x with
  | .str s => some s.length
  | _ => match seqOf M x with
    | some xs => some xs.length
    | none => match dkOf M x with
      | some kvs => some kvs.length
      | none => none
def bLen (xs : List D) (M : MS) : Option D := match xs with
  | [x] => (lenD M x).map fun n => .int n
  | _ => none
def rLenM (K : PySem.W.Frag) : List V → Hp → VK → Prop := fun xs H Q => (∃ x n, xs = [x] ∧ LenV K x H n ∧ Q (.int n) H) ∨ ∃ a kvs, xs = [V.ref a] ∧ Rd H a (.dK kvs) ∧ Q (.int kvs.length) H
section
variable {X : Cx} {K : PySem.W.Frag} {H : Hp} {ρ : RS} {M : MS}
theorem call_lenM : CallR X (.builtin "len") (rLenM X.K) := by
  intro pins s σ H xs us Q I r h
  rcases h with h | ⟨a, kvs, rfl, ha, q⟩
  · exact call_len pins s σ H xs us Q I r h
  · obtain ⟨u, rfl, rx⟩ := vals1 r
    cases (show u = Value.ref a from rx)
    exact d_len I ha fun t s' I' => ⟨.int kvs.length, H, I', ⟨t, rfl⟩, q⟩
theorem seq_rel {x : D} {v : V} {xs : List D} (hr : HR K H ρ M) (e : seqOf M x = some xs) (r : Rel K H ρ x v) : ∃ a vs, v = .ref a ∧ (SqL K H a vs ∨ SqT K H a vs) ∧ Rels K H ρ xs vs := by
  unfold seqOf at e
  split at e
  · rename_i ys hx
    cases e
    obtain ⟨a, vs, rfl, hs, r⟩ := ls_rel hr hx r
    exact ⟨a, vs, rfl, .inl hs, r⟩
  · obtain ⟨a, vs, rfl, hs, r⟩ := tp_rel e r
    exact ⟨a, vs, rfl, .inr hs, r⟩
theorem RelK.length : ∀ {kvs : List (Key × D)} {us : List (Key × V)}, RelK K H ρ kvs us → kvs.length = us.length
  | [], us, h => by rw [show us = [] from h]; rfl
  | (k, d) :: kvs, us, h => by
    obtain ⟨v, r, rfl, _, _, h2⟩ := h
    simp [RelK.length h2]
theorem o_len : OpN K bLen (rLenM K) := by
  intro xs z M H ρ us Q e hr rs q
  match xs, rs, e with
  | [x], rs, e =>
    obtain ⟨v, r, rfl, rx, rr⟩ := rs
    obtain rfl : r = [] := rr
    have e : (lenD M x).map (fun n => D.int n) = some z := e
    cases g : lenD M x with
    | none => rw [g] at e; cases e
    | some n =>
      rw [g] at e
      cases e
      have k := q H (.int n) (fun _ _ h => h) rfl
      unfold lenD at g
      split at g
      · rename_i s
        cases g
        obtain ⟨rfl, ho⟩ := rx
        exact .inl ⟨_, _, rfl, ⟨ho.2, rfl⟩, k⟩
      · split at g
        · rename_i ys hx
          cases g
          obtain ⟨a, vs, rfl, hs, r⟩ := seq_rel hr hx rx
          refine .inl ⟨_, _, rfl, ?_, k⟩
          rcases hs with hs | hs
          · exact .inl ⟨vs, hs, r.length⟩
          · exact .inr ⟨vs, hs, r.length⟩
        · split at g
          · rename_i kvs hx
            cases g
            obtain ⟨a, vs, rfl, hs, r⟩ := dk_rel hr hx rx
            refine .inr ⟨a, vs, rfl, hs, ?_⟩
            rw [← r.length]
            exact k
          · cases g
  | [], rs, e => cases e
  | a :: b :: r, rs, e => cases e
end

/-! isinstance -/
def tyD (M : MS) : D → Option String
  | .non => some "NoneType"
  | .bl _ => some "bool"
  | .int _ => some "int"
  | .str _ => some "str"
  | .tup _ => some "tuple"
  | .frt _ => some "tuple"
  | .lst _ => some "list"
  | .frl _ => some "list"
  | .dcK _ => some "dict"
  | .ref n => match M[n]? with
    | some (.lst _) => some "list"
    | some (.dcK _) => some "dict"
    | some (.dcT _) => some "dict"
    | some (.lkK _) => some "dict"
    | _ => none
  | _ => none
def isB (t c : String) : Bool := decide (c = t) || (decide (t = "bool") && decide (c = "int"))
def isT : List String := ["NoneType", "bool", "int", "str", "tuple", "list", "dict"]
def isC : List String := ["bool", "int", "str", "tuple", "list", "dict", "set", "bytes", "float"]
theorem kit_all : ∀ t ∈ isT, ∀ c ∈ isC, kitB t c = some (isB t c) := by decide +kernel
def tysOf : List D → Option (List String)
  | [] => some []
  | .ty c :: r => (tysOf r).map fun cs => c :: cs
  | _ => none
def bIsi (xs : List D) (M : MS) : Option D := match xs with
  | [x, .ty c] => if c ∈ isC then (tyD M x).map fun t => .bl (isB t c) else none
  | [x, .tup cs] => match tysOf cs with
    | some ts => if (∀ c ∈ ts, c ∈ isC) then (tyD M x).map fun t => .bl (ts.any (isB t)) else none
    | none => none
  | _ => none
def rIsiM (K : PySem.W.Frag) : List V → Hp → VK → Prop := fun xs H Q => rIsi K xs H Q ∨ rIsiT K xs H Q
theorem CallR.or {X : Cx} {f : Value} {r r' : List V → Hp → VK → Prop} (h : CallR X f r) (h' : CallR X f r') : CallR X f (fun xs H Q => r xs H Q ∨ r' xs H Q) := fun pins s σ H xs us Q I rv q => by
  rcases q with q | q
  · exact h pins s σ H xs us Q I rv q
  · exact h' pins s σ H xs us Q I rv q
section
variable {X : Cx} {K : PySem.W.Frag} {H : Hp} {ρ : RS} {M : MS}
theorem call_isiM : CallR X (.builtin "isinstance") (rIsiM X.K) := CallR.or call_isi call_isiT
theorem tyD_rel {x : D} {t : String} {v : V} (hr : HR K H ρ M) (e : tyD M x = some t) (r : Rel K H ρ x v) : t ∈ isT ∧ TyX K H v (.type t) := by
  cases x with
  | non => cases e; rw [show v = _ from r]; exact ⟨by decide, .base .non⟩
  | bl b => cases e; rw [show v = _ from r]; exact ⟨by decide, .base (.bl b)⟩
  | int b => cases e; rw [show v = _ from r]; exact ⟨by decide, .base (.int b)⟩
  | str b => cases e; rw [show v = _ from r.1]; exact ⟨by decide, .base (.str b)⟩
  | tup xs => cases e; obtain ⟨a, vs, rfl, h, _⟩ := r; exact ⟨by decide, .base (.tup h)⟩
  | lst xs => cases e; obtain ⟨a, vs, rfl, h, _⟩ := r; exact ⟨by decide, .base (.lst h.1)⟩
  | frt xs =>
    cases e
    obtain ⟨a, vs, rfl, h, _⟩ := r
    refine ⟨by decide, ?_⟩
    rcases h with (h | ⟨o, h⟩) | ⟨o, its, n, h, hc, _⟩
    · exact .base (.tup h)
    · exact .fTuple h
    · exact .kTuple h hc
  | frl xs =>
    cases e
    obtain ⟨a, vs, rfl, h, _⟩ := r
    refine ⟨by decide, ?_⟩
    rcases h with ⟨h | ⟨o, h⟩, _⟩ | ⟨o, its, n, h, hc, _⟩
    · exact .base (.lst h)
    · exact .base (.frz h)
    · exact .kList h hc
  | dcK kvs =>
    cases e
    obtain ⟨a, us, rfl, _, h, _⟩ := r
    refine ⟨by decide, ?_⟩
    rcases h with h | ⟨o, h⟩
    · exact .base (.dK h)
    · exact .fDict h
  | ref n =>
    have e : (match M[n]? with
    | some (.lst _) => some "list"
    | some (.dcK _) => some "dict"
    | some (.dcT _) => some "dict"
    | some (.lkK _) => some "dict"
    | _ => none) = some t := e
    split at e
    · rename_i ys g
      cases e
      obtain ⟨a, rfl, _, vs, h, _⟩ := ref_at hr g r
      exact ⟨by decide, .base (.lst h)⟩
    · rename_i ys g
      cases e
      obtain ⟨a, rfl, _, vs, h, _⟩ := ref_at hr g r
      exact ⟨by decide, .base (.dK h)⟩
    · rename_i ys g
      cases e
      obtain ⟨a, rfl, _, vs, h, _⟩ := ref_at hr g r
      exact ⟨by decide, .base (.dT h)⟩
    · rename_i ys g
      cases e
      obtain ⟨a, rfl, _, vs, o, h, _⟩ := ref_at hr g r
      exact ⟨by decide, .fDict h⟩
    · cases e
  | dcT kvs => cases e
  | ty n => cases e
theorem tys_rel : ∀ {cs : List D} {ts : List String} {vs : List V}, tysOf cs = some ts → Rels K H ρ cs vs → Paired ClsV vs (ts.map Value.type)
  | [], ts, vs, e, r => by
    rw [show vs = [] from r]
    cases e
    exact .nil
  | c :: cs, ts, vs, e, r => by
    obtain ⟨v, w, rfl, h1, h2⟩ := r
    cases c with
    | ty n =>
      have e : (tysOf cs).map (fun cs => n :: cs) = some ts := e
      cases q : tysOf cs with
      | none => rw [q] at e; cases e
      | some ts' =>
        rw [q] at e
        cases e
        rw [show v = _ from h1]
        exact .cons (.ty n) (tys_rel q h2)
    | _ => cases e
theorem kit_any {t : String} (ht : t ∈ isT) : ∀ {ts : List String}, (∀ c ∈ ts, c ∈ isC) → PySem.W.kitAny K (.type t) (ts.map Value.type) = some (ts.any (isB t))
  | [], _ => rfl
  | c :: ts, h => by
    have h1 := kit_all t ht c (h c List.mem_cons_self)
    have h2 := kit_any ht (ts := ts) fun c hc => h c (List.mem_cons_of_mem _ hc)
    rw [List.map_cons, List.any_cons]
    exact kitAny_cons (kit_ty h1) (fun e => by rw [h2, e]; rfl) fun e => by rw [e]; rfl
theorem o_isi : OpN K bIsi (rIsiM K) := by
  intro xs z M H ρ us Q e hr rs q
  unfold bIsi at e
  split at e
  · rename_i x c
    split at e
    · rename_i hc
      obtain ⟨v, r, rfl, rx, w, r', rfl, ry, rr⟩ := rs
      obtain rfl : r' = [] := rr
      cases g : tyD M x with
      | none => rw [g] at e; cases e
      | some t =>
        rw [g] at e
        cases e
        obtain ⟨h1, h2⟩ := tyD_rel hr g rx
        have hw : w = .ty c := ry
        subst hw
        exact .inl ⟨v, _, _, _, _, rfl, .ty c, h2, kit_ty (kit_all t h1 c hc), q H _ (fun _ _ h => h) rfl⟩
    · cases e
  · rename_i x cs
    split at e
    · rename_i ts hts
      split at e
      · rename_i hc
        obtain ⟨v, r, rfl, rx, w, r', rfl, ry, rr⟩ := rs
        obtain rfl : r' = [] := rr
        cases g : tyD M x with
        | none => rw [g] at e; cases e
        | some t =>
          rw [g] at e
          cases e
          obtain ⟨h1, h2⟩ := tyD_rel hr g rx
          obtain ⟨a, vs, rfl, ha, rv⟩ := ry
          exact .inr ⟨v, a, vs, _, _, _, rfl, ha, tys_rel hts rv, h2, kit_any h1 hc, q H _ (fun _ _ h => h) rfl⟩
      · cases e
    · cases e
  · cases e
end

/-! others -/
def bInt (xs : List D) (M : MS) : Option D := match xs with
  | [.int i] => some (.int i)
  | [.bl b] => some (.int (if b then 1 else 0))
  | [.str s] => match PySem.intText? s with
    | some n => if s.length ≤ 640 then some (.int n) else none
    | none => none
  | _ => none
def bAbs (xs : List D) (M : MS) : Option D := match xs with
  | [.int i] => some (.int (if i < 0 then -i else i))
  | _ => none
def bMax (xs : List D) (M : MS) : Option D := match xs with
  | [.int i, .int j] => some (.int (if j > i then j else i))
  | _ => none
def bMin (xs : List D) (M : MS) : Option D := match xs with
  | [.int i, .int j] => some (.int (if j < i then j else i))
  | _ => none
def blsOf : List D → Option (List Bool)
  | [] => some []
  | .bl b :: r => (blsOf r).map fun bs => b :: bs
  | _ => none
def bAll (xs : List D) (M : MS) : Option D := match xs with
  | [x] => match lsOf M x with
    | some ys => (blsOf ys).map fun bs => .bl (bs.all id)
    | none => none
  | _ => none
def bAny (xs : List D) (M : MS) : Option D := match xs with
  | [x] => match lsOf M x with
    | some ys => (blsOf ys).map fun bs => .bl (bs.any id)
    | none => none
  | _ => none
def bTup (xs : List D) (M : MS) : Option D := match xs with
  | [x] => match lsOf M x with
    | some ys => some (.tup ys)
    | none => match tpOf x with
      | some ys => some x
      | none => none
  | _ => none
def bList (xs : List D) (M : MS) : Option (List D) := match xs with
  | [x] => seqOf M x
  | _ => none
section
variable {X : Cx} {K : PySem.W.Frag} {H : Hp} {ρ : RS} {M : MS}
theorem rels1 {x : D} {us : List V} (r : Rels K H ρ [x] us) : ∃ u, us = [u] ∧ Rel K H ρ x u := by
  obtain ⟨v, r, rfl, rx, rr⟩ := r
  obtain rfl : r = [] := rr
  exact ⟨v, rfl, rx⟩
theorem rels2 {x y : D} {us : List V} (r : Rels K H ρ [x, y] us) : ∃ u v, us = [u, v] ∧ Rel K H ρ x u ∧ Rel K H ρ y v := by
  obtain ⟨v, r, rfl, rx, r2⟩ := r
  obtain ⟨w, rfl, ry⟩ := rels1 r2
  exact ⟨v, w, rfl, rx, ry⟩
def rIntM : List V → Hp → VK → Prop := fun xs H Q => ((∃ i, xs = [.int i] ∧ Q (.int i) H) ∨ ∃ k, xs = [.bl k] ∧ Q (.int (if k then 1 else 0)) H) ∨ (∃ a n, xs = [.str a] ∧ PySem.intText? a = some n ∧ a.length ≤ 640 ∧ Q (.int n) H)
theorem call_intM : CallR X (.type "int") rIntM := CallR.or call_int1 call_int_str
theorem o_int : OpN K bInt rIntM := by
  intro xs z M H ρ us Q e hr rs q
  unfold bInt at e
  split at e
  · cases e
    obtain ⟨u, rfl, rx⟩ := rels1 rs
    exact .inl (.inl ⟨_, by rw [show u = _ from rx], q H _ (fun _ _ h => h) rfl⟩)
  · cases e
    obtain ⟨u, rfl, rx⟩ := rels1 rs
    exact .inl (.inr ⟨_, by rw [show u = _ from rx], q H _ (fun _ _ h => h) rfl⟩)
  · split at e
    · rename_i n hn
      split at e
      · rename_i hl
        cases e
        obtain ⟨u, rfl, rx⟩ := rels1 rs
        exact .inr ⟨_, n, by rw [show u = _ from rx.1], hn, hl, q H _ (fun _ _ h => h) rfl⟩
      · cases e
    · cases e
  · cases e
theorem o_abs : OpN K bAbs (fun xs H Q => ∃ i, xs = [.int i] ∧ Q (.int (if i < 0 then -i else i)) H) := by
  intro xs z M H ρ us Q e hr rs q
  unfold bAbs at e
  split at e
  · cases e
    obtain ⟨u, rfl, rx⟩ := rels1 rs
    exact ⟨_, by rw [show u = _ from rx], q H _ (fun _ _ h => h) rfl⟩
  · cases e
theorem o_max : OpN K bMax (fun xs H Q => ∃ i j, xs = [.int i, .int j] ∧ Q (.int (if j > i then j else i)) H) := by
  intro xs z M H ρ us Q e hr rs q
  unfold bMax at e
  split at e
  · cases e
    obtain ⟨u, v, rfl, rx, ry⟩ := rels2 rs
    exact ⟨_, _, by rw [show u = _ from rx, show v = _ from ry], q H _ (fun _ _ h => h) rfl⟩
  · cases e
theorem o_min : OpN K bMin (fun xs H Q => ∃ i j, xs = [.int i, .int j] ∧ Q (.int (if j < i then j else i)) H) := by
  intro xs z M H ρ us Q e hr rs q
  unfold bMin at e
  split at e
  · cases e
    obtain ⟨u, v, rfl, rx, ry⟩ := rels2 rs
    exact ⟨_, _, by rw [show u = _ from rx, show v = _ from ry], q H _ (fun _ _ h => h) rfl⟩
  · cases e
theorem bls_rel : ∀ {ys : List D} {bs : List Bool} {vs : List V}, blsOf ys = some bs → Rels K H ρ ys vs → vs = bs.map V.bl
  | [], bs, vs, e, r => by
    cases e
    exact r
  | c :: cs, bs, vs, e, r => by
    obtain ⟨v, w, rfl, h1, h2⟩ := r
    cases c with
    | bl b =>
      have e : (blsOf cs).map (fun cs => b :: cs) = some bs := e
      cases q : blsOf cs with
      | none => rw [q] at e; cases e
      | some ts' =>
        rw [q] at e
        cases e
        rw [show v = _ from h1, bls_rel q h2]
        rfl
    | _ => cases e
theorem o_all : OpN K bAll (rAll K) := by
  intro xs z M H ρ us Q e hr rs q
  unfold bAll at e
  split at e
  · split at e
    · rename_i ys hx
      cases g : blsOf ys with
      | none => rw [g] at e; cases e
      | some bs =>
        rw [g] at e
        cases e
        obtain ⟨u, rfl, rx⟩ := rels1 rs
        obtain ⟨a, vs, rfl, hs, r⟩ := ls_rel hr hx rx
        rw [bls_rel g r] at hs
        exact ⟨a, bs, rfl, hs, q H _ (fun _ _ h => h) rfl⟩
    · cases e
  · cases e
theorem o_any : OpN K bAny (rAny K) := by
  intro xs z M H ρ us Q e hr rs q
  unfold bAny at e
  split at e
  · split at e
    · rename_i ys hx
      cases g : blsOf ys with
      | none => rw [g] at e; cases e
      | some bs =>
        rw [g] at e
        cases e
        obtain ⟨u, rfl, rx⟩ := rels1 rs
        obtain ⟨a, vs, rfl, hs, r⟩ := ls_rel hr hx rx
        rw [bls_rel g r] at hs
        exact ⟨a, bs, rfl, hs, q H _ (fun _ _ h => h) rfl⟩
    · cases e
  · cases e
def rTupM (K : PySem.W.Frag) : List V → Hp → VK → Prop := fun xs H Q => ∃ p ys, xs = [.ref p] ∧ ((SqL K H p ys ∧ ∀ l, H l = none → Q (.ref l) (upd H l (.tup ys))) ∨ (SqT K H p ys ∧ Q (.ref p) H))
theorem o_tup : OpN K bTup (rTupM K) := by
  intro xs z M H ρ us Q e hr rs q
  unfold bTup at e
  split at e
  · rename_i x
    obtain ⟨u, rfl, rx⟩ := rels1 rs
    split at e
    · rename_i ys hx
      cases e
      obtain ⟨a, vs, rfl, hs, r⟩ := ls_rel hr hx rx
      exact ⟨a, vs, rfl, .inl ⟨hs, fun l hl => q _ _ (keep_new hl) (Rel.tup_new hl hr r)⟩⟩
    · split at e
      · rename_i ys hx
        cases e
        have rx' := rx
        obtain ⟨a, vs, rfl, hs, r⟩ := tp_rel hx rx
        exact ⟨a, vs, rfl, .inr ⟨hs, q H _ (fun _ _ h => h) rx'⟩⟩
      · cases e
  · cases e
def rListM (K : PySem.W.Frag) : List V → Hp → VK → Prop := fun xs H Q => ∃ p ys, xs = [.ref p] ∧ (SqL K H p ys ∨ SqT K H p ys) ∧ ∀ l, H l = none → Q (.ref l) (upd H l (.lst ys))
theorem o_list : OpL K bList (rListM K) := by
  intro xs z M H ρ us Q e hr rs q
  unfold bList at e
  split at e
  · rename_i x
    obtain ⟨u, rfl, rx⟩ := rels1 rs
    obtain ⟨a, vs, rfl, hs, r⟩ := seq_rel hr e rx
    exact ⟨a, vs, rfl, hs, fun l hl => q l vs r hl⟩
  · cases e
end
end NV
end
section
set_option Elab.async false
set_option linter.all false
set_option maxRecDepth 100000
set_option maxHeartbeats 4000000
set_option autoImplicit false
namespace NV
open PySem PySem.Spec L2

/-! ### what is walked -/
structure Src where
  xs : List D
  gs : List (Nat × List D)
def gOk (gs : List (Nat × List D)) (M : MS) : Prop := ∀ p ∈ gs, M[p.1]? = some (.lst p.2)
/-- J gives what stands for the items of s, one after another, while the lists that it walks are as they were -/
def Seqs (K : PySem.W.Frag) (J : It) (s : Src) (H : Hp) (ρ : RS) : Prop := ∀ H2 ρ2 M2, Ext H ρ H2 ρ2 → HR K H2 ρ2 M2 → gOk s.gs M2 →
  J.stop s.xs.length H2 ∧ ∀ i d, s.xs[i]? = some d → J.go i H2 ∧ ∀ x H3, J.yld i H2 x H3 → (∀ a o, H2 a = some o → H3 a = some o) ∧ Rel K H3 ρ2 d x
def tI (g : GW) (f : Fx Src) : TI := fun σ H R => ∃ ρ M η, HR g.K H ρ M ∧ ER g.K H ρ η σ ∧ Post g σ H ρ (fun s M' H' ρ' => ∀ J, Seqs g.K J s H' ρ' → R J H') (f η M)
open Classical in
noncomputable def gIf (gs : List (Nat × List D)) (M : MS) (r : SRes) : SRes := if gOk gs M then r else .fail
noncomputable def loopF (gs : List (Nat × List D)) (t : Gx) (b : Sx) : List D → Sx
  | [], η, M => gIf gs M (.nx η M)
  | x :: xs, η, M => gIf gs M (thenG (t x η M) fun η1 M1 => turnS (b η1 M1) (loopF gs t b xs))
theorem PostS.gIf {g : GW} {H : Hp} {ρ : RS} {E : Ends} {gs : List (Nat × List D)} {M : MS} {r : SRes} (h : PostS g H ρ E (NV.gIf gs M r)) : gOk gs M ∧ PostS g H ρ E r := by
  unfold NV.gIf at h
  split at h
  · exact ⟨by assumption, h⟩
  · exact h.elim
noncomputable def sFor (f : Fx Src) (t : Gx) (b : Sx) : Sx := fun η M => bindS (f η M) η fun s M1 => loopF s.gs t b s.xs η M1
theorem PI.imp {X : Cx} {tg e : Expr} {t t' : TI} (h : PI X tg e t) (k : ∀ σ H R, t' σ H R → t σ H R) : PI X tg e t' := ⟨fun pins s σ H R I q => h.run pins s σ H R I (k σ H R q)⟩
section
variable {X : Cx} {g : GW} {tg iter : Expr} {body : List Stmt} {f : Fx Src} {t : Gx} {b : Sx} {pos : Pos} {ts : List Nat}
theorem ds_for (hp : PassesOwn (model X.prog X.w) X.A X.env X.xe) (hc : X.calm = true) (hi : PI X tg iter (tI g f)) (hg : PG X tg (tG g ts t)) (hb : PSs X body (tS g b))
    (hs : ∀ x, foldedSetIterable iter X.env x = pure x) : PS X (.For tg iter body [] pos) (tS g (sFor f t b)) := by
  refine PS.imp (ps_for hp hc hi hg hb hs) fun E σ H h => ?_
  obtain ⟨ρ, M, η, hr, er, h⟩ := h
  refine ⟨ρ, M, η, hr, er, (PostS.bind er hr h).mono fun s M1 H1 ρ1 s1 hr1 h1 J hJ => ?_⟩
  refine ⟨fun i m σ H => i + m = s.xs.length ∧ ∃ ρ M η, Ext H1 ρ1 H ρ ∧ HR g.K H ρ M ∧ ER g.K H ρ η σ ∧ PostS g H ρ E (loopF s.gs t b (s.xs.drop i) η M),
    ⟨s.xs.length, by simp, ρ1, M1, η, Ext.refl H1 ρ1, hr1, er.mono s1.toExt hr, by simpa using h1⟩, fun i m σ2 H2 w => ?_⟩
  obtain ⟨hm, ρ2, M2, η2, e2, hr2, er2, h2⟩ := w
  cases hd : s.xs.drop i with
  | nil =>
    rw [hd] at h2
    obtain ⟨ok, h2⟩ := PostS.gIf h2
    have hl : i = s.xs.length := by
      have := List.drop_eq_nil_iff.mp hd
      omega
    subst hl
    exact .inl ⟨(hJ H2 ρ2 M2 e2 hr2 ok).1, h2 σ2 H2 ρ2 (Step.refl H2 ρ2) hr2 er2⟩
  | cons x xs =>
    rw [hd] at h2
    obtain ⟨ok, h2⟩ := PostS.gIf h2
    have hx : s.xs[i]? = some x := by
      have := congrArg (fun l => l[0]?) hd
      simpa [List.getElem?_drop] using this
    have hxs : s.xs.drop (i + 1) = xs := by
      rw [← List.tail_drop, hd]
      rfl
    have hlt : i < s.xs.length := (List.getElem?_eq_some_iff.mp hx).1
    obtain ⟨_, hgo⟩ := hJ H2 ρ2 M2 e2 hr2 ok
    obtain ⟨h3, h4⟩ := hgo i x hx
    refine .inr ⟨h3, fun σ' H' => ∃ ρ' M' η', Ext H1 ρ1 H' ρ' ∧ HR g.K H' ρ' M' ∧ ER g.K H' ρ' η' σ' ∧ PostS g H' ρ' E (loopF s.gs t b xs η' M'), fun σ' H' n' => ⟨m - 1, by omega, by omega, by rw [hxs]; exact n'⟩, fun v H3 y => ?_⟩
    obtain ⟨k3, rv⟩ := h4 v H3 y
    have s3 : Step H2 ρ2 H3 ρ2 := Step.ext hr2 k3
    have hr3 := hr2.ext k3
    refine ⟨ρ2, M2, η2, x, hr3, er2.mono s3.toExt hr2, rv, ?_⟩
    refine PostS.thenG (PostS.from h2 s3 hr3) fun σ4 H4 ρ4 M4 η4 s4 hr4 er4 h5 => ⟨ρ4, M4, η4, hr4, er4, ?_⟩
    exact h5.turn fun σ5 H5 ρ5 M5 η5 s5 hr5 er5 h6 => ⟨ρ5, M5, η5, e2.trans ((s3.trans s4 hr3).trans s5 hr4).toExt, hr5, er5, h6⟩
end
end NV
end
section
set_option Elab.async false
set_option linter.all false
set_option maxRecDepth 100000
set_option maxHeartbeats 4000000
set_option autoImplicit false
namespace NV
open PySem PySem.Spec L2

/-! ### comprehensions -/
def wipeN (η : Nv) : List Nat → Nv
  | [] => η
  | v :: vs => (wipeN η vs).set v none
/-- nothing is raised -/
def GW.nx (g : GW) : GW := ⟨g.K, g.cl, fun _ _ _ _ => False⟩
def bindF {α β : Type} (r : Res α) (k : α → MS → Res β) : Res β := match r with
  | .ok a M => k a M
  | _ => .fail
def thenF {β : Type} (r : SRes) (k : Nv → MS → Res β) : Res β := match r with
  | .nx η M => k η M
  | _ => .fail
open Classical in
noncomputable def gIfR {β : Type} (gs : List (Nat × List D)) (M : MS) (r : Res β) : Res β := if gOk gs M then r else .fail
noncomputable def lcF (gs : List (Nat × List D)) (t : Gx) (c : Fx Bool) (e : Fx D) (η0 : Nv) : List D → List D → MS → Res (List D)
  | [], acc, M => gIfR gs M (.ok acc M)
  | x :: xs, acc, M => gIfR gs M (thenF (t x η0 M) fun η1 M1 => bindF (c η1 M1) fun k M2 =>
      if k = true then bindF (e η1 M2) fun y M3 => if acc.length < sizeLine then lcF gs t c e η0 xs (acc ++ [y]) M3 else .fail else lcF gs t c e η0 xs acc M2)
noncomputable def nLc (vs : List Nat) (f : Fx Src) (t : Gx) (c : Fx Bool) (e : Fx D) : Fx (List D) := fun η M => bindR (f η M) fun s M1 => lcF s.gs t c e (wipeN η vs) s.xs [] M1
def fYes : Fx Bool := fun _ M => .ok true M
section
variable {g : GW} {σ : L2.St} {H H1 H' : Hp} {ρ ρ1 ρ' : RS} {M : MS} {Q : VK} {α β : Type}
theorem ER.wipe {K : PySem.W.Frag} {η : Nv} (e : ER K H ρ η σ) : ∀ vs : List Nat, ER K H ρ (wipeN η vs) (wipe σ vs)
  | [] => e
  | v :: vs => by
    have ih := ER.wipe e vs
    refine ⟨by show ((wipeN η vs).set v none).length = ((L2.wipe σ vs).set v none).length; rw [List.length_set, List.length_set]; exact ih.1, fun i d h => ?_⟩
    have h : ((wipeN η vs).set v none)[i]? = some (some d) := h
    show ∃ u, ((L2.wipe σ vs).set v none)[i]? = some (some u) ∧ _
    by_cases hi : i = v
    · subst hi
      by_cases hl : i < (wipeN η vs).length
      · rw [List.getElem?_set_self hl] at h; cases h
      · rw [List.getElem?_eq_none (by simpa using hl)] at h; cases h
    · rw [List.getElem?_set_ne (Ne.symm hi)] at h ⊢
      exact ih.2 i d h
theorem wipe_at (σ : L2.St) (i : Nat) : ∀ vs : List Nat, (wipe σ vs)[i]? = if i ∈ vs ∧ i < σ.length then some none else σ[i]?
  | [] => by simp [wipe]
  | v :: vs => by
    have ih := wipe_at σ i vs
    show ((wipe σ vs).set v none)[i]? = _
    by_cases hi : i = v
    · subst hi
      by_cases hl : i < σ.length
      · rw [List.getElem?_set_self (by rw [wipe_length]; exact hl), if_pos ⟨by simp, hl⟩]
      · rw [List.getElem?_eq_none (by rw [List.length_set, wipe_length]; omega), if_neg (by omega), List.getElem?_eq_none (by omega)]
    · rw [List.getElem?_set_ne (Ne.symm hi), ih]
      simp [hi]
theorem wipe_sb {ts vs : List Nat} {σ σ' : L2.St} (b : SB ts (wipe σ vs) σ') (h : ∀ i ∈ ts, i ∈ vs) : wipe σ' vs = wipe σ vs := by
  have hl : σ'.length = σ.length := by rw [b.1, wipe_length]
  apply List.ext_getElem?
  intro i
  rw [wipe_at, wipe_at, hl]
  by_cases hi : i ∈ vs ∧ i < σ.length
  · rw [if_pos hi, if_pos hi]
  · rw [if_neg hi, if_neg hi]
    by_cases hv : i ∈ vs
    · have : ¬ i < σ.length := fun z => hi ⟨hv, z⟩
      rw [List.getElem?_eq_none (by omega), List.getElem?_eq_none (by omega)]
    · rw [b.2 i fun z => hv (h i z), wipe_at, if_neg hi]
theorem PostN.bindF {r : Res α} {k : α → MS → Res (List D)} {H0 : Hp} {ρ0 : RS} {σ0 : L2.St} {P : α → MS → Hp → RS → Prop} (h : PostN g σ0 H0 ρ0 Q (NV.bindF r k)) (hN : ∀ a M' H' ρ', Step H ρ H' ρ' → HR g.K H' ρ' M' → PostN g σ0 H0 ρ0 Q (k a M') → P a M' H' ρ') : Post g.nx σ H ρ P r := by
  cases r with
  | ok a M' => exact fun H' ρ' s q => hN a M' H' ρ' s q h
  | exc x M' => exact h.elim
  | fail => exact h.elim
theorem PostN.thenF {r : SRes} {k : Nv → MS → Res (List D)} {H0 : Hp} {ρ0 : RS} {σ0 : L2.St} {ts : List Nat} {Q' : L2.St → Hp → Prop} (h : PostN g σ0 H0 ρ0 Q (NV.thenF r k)) (hN : ∀ σ' H' ρ' M' η', Step H ρ H' ρ' → HR g.K H' ρ' M' → ER g.K H' ρ' η' σ' → SB ts σ σ' → PostN g σ0 H0 ρ0 Q (k η' M') → Q' σ' H') : PostG g.nx σ ts H ρ Q' r := by
  cases r with
  | nx η' M' => exact fun σ' H' ρ' s q er b => hN σ' H' ρ' M' η' s q er b h
  | _ => exact h.elim
theorem PostN.gIfR {gs : List (Nat × List D)} {r : Res (List D)} (h : PostN g σ H ρ Q (NV.gIfR gs M r)) : gOk gs M ∧ PostN g σ H ρ Q r := by
  unfold NV.gIfR at h
  split at h
  · exact ⟨by assumption, h⟩
  · exact h.elim
theorem HR.writeZ {K : PySem.W.Frag} {a : Addr} {u : HO} (hr : HR K H ρ M) (ha : a ∈ ρ.z) (hb : Bx (some u)) : HR K (upd H a u) ρ M := by
  have nd := List.nodup_append.mp hr.nd
  refine ⟨hr.nd, hr.len, fun m ob e b q => (hr.at_ m ob e b q).mono (Ext.write (List.mem_append_right _ ha)) hr (upd_ne (nd.2.2 b (List.mem_of_getElem? q) a ha)), fun b hbz => ?_⟩
  by_cases hba : b = a
  · subst hba; rw [upd_same]; exact hb
  · rw [upd_ne hba]; exact hr.zl b hbz
theorem Ext.toStep {p : Addr} {ids z : List Addr} (s : Ext H1 ρ1 H' ⟨ids, p :: z⟩) (hz : z = ρ1.z) (zk : ∀ a ∈ ρ1.z, H' a = H1 a) : Step H1 ρ1 H' ⟨ids, ρ1.z⟩ :=
  ⟨⟨s.more, fun a ha => s.new a (by
    rcases List.mem_append.mp ha with h | h
    · exact List.mem_append_left _ h
    · exact List.mem_append_right _ (List.mem_cons_of_mem _ (by rw [hz]; exact h))), s.keep⟩, rfl, zk⟩
end
section
variable {X : Cx} {g : GW} {f : Fx Src} {t : Gx} {c : Fx Bool} {e : Fx D} {ts : List Nat}
theorem PTs.imp {ifs : List Expr} {t t' : TT} (h : PTs X ifs t) (k : ∀ σ H Q, t' σ H Q → t σ H Q) : PTs X ifs t' := ⟨fun pins s σ H Q I q => h.run pins s σ H Q I (k σ H Q q)⟩
theorem dts_nil : PTs X [] (tT g fYes) := PTs.imp pts_nil fun σ H Q ⟨ρ, M, η, hr, er, h⟩ => h H ρ (Step.refl H ρ) hr
theorem dts_one {a : Expr} (h : PT X a (tT g c)) : PTs X [a] (tT g c) := pts_one h
theorem n_lc {elt tg iter : Expr} {ifs : List Expr} {scope : Scope} {own : List (Str × Nat)} {pos : Pos} (hc : X.calm = true) (hN : X.N.Nodup) (hi : PI X tg iter (tI g f)) (ok : BlkOk X.N X.env.scope scope own)
    (hg : ∀ (s : Shared) (H : Hp) (C : Addr) (cl : List (Str × Addr)) (fp : List Addr), PG (X.blk s H scope (compEnvC scope cl C X.env) fp) tg (tG g.nx ts t))
    (ht : ∀ (s : Shared) (H : Hp) (C : Addr) (cl : List (Str × Addr)) (fp : List Addr), PTs (X.blk s H scope (compEnvC scope cl C X.env) fp) ifs (tT g.nx c))
    (he : ∀ (s : Shared) (H : Hp) (C : Addr) (cl : List (Str × Addr)) (fp : List Addr), PE (X.blk s H scope (compEnvC scope cl C X.env) fp) elt (tE g.nx e))
    (hs : ∀ x, foldedSetIterable iter X.env x = pure x) (hts : ∀ i ∈ ts, i ∈ own.map (·.2)) :
    PE X (.ListComp elt [⟨tg, iter, ifs, 0⟩] scope pos) (tN g (nLc (own.map (·.2)) f t c e)) := by
  refine PE.imp (pe_lc hc hN hi ok hg ht he hs) fun σ H Q h => ?_
  generalize own.map (·.2) = vs at *
  obtain ⟨ρ, M, η, hr, er, h⟩ := h
  refine ⟨ρ, M, η, hr, er, h.bind.mono fun s M1 H1 ρ1 s1 hr1 h1 J hJ D hD => ?_⟩
  have er1 : ER g.K H1 ρ1 (wipeN η vs) (wipe σ vs) := (er.mono s1.toExt hr).wipe vs
  refine ⟨fun i m Hc => i + m = s.xs.length ∧ ∃ ids M acc us, Ext H1 ρ1 Hc ⟨ids, D :: ρ1.z⟩ ∧ (∀ a ∈ ρ1.z, Hc a = H1 a) ∧ HR g.K Hc ⟨ids, D :: ρ1.z⟩ M ∧ Hc D = some (.lst us) ∧ Rels g.K Hc ⟨ids, D :: ρ1.z⟩ acc us ∧
    PostN g σ H1 ρ1 Q (lcF s.gs t c e (wipeN η vs) (s.xs.drop i) acc M), ⟨s.xs.length, by simp, ρ1.ids, M1, [], [], Ext.reserve hD, fun a ha => upd_ne fun z => hr1.fresh hD (List.mem_append_right _ (z ▸ ha)), hr1.reserve hD trivial, upd_same, rfl, by simpa using h1⟩, fun i m Hc w => ?_⟩
  obtain ⟨hm, ids, M2, acc, us, e2, zk2, hr2, hd2, ra, h2⟩ := w
  cases hd : s.xs.drop i with
  | nil =>
    rw [hd] at h2
    obtain ⟨ok, h2⟩ := PostN.gIfR h2
    have hl : i = s.xs.length := by
      have := List.drop_eq_nil_iff.mp hd
      omega
    subst hl
    exact .inl ⟨(hJ Hc _ M2 e2 hr2 ok).1, h2 D us Hc ids (e2.toStep rfl zk2) hD hr2 hd2 ra⟩
  | cons x xs =>
    rw [hd] at h2
    obtain ⟨ok, h2⟩ := PostN.gIfR h2
    have hx : s.xs[i]? = some x := by
      have := congrArg (fun l => l[0]?) hd
      simpa [List.getElem?_drop] using this
    have hxs : s.xs.drop (i + 1) = xs := by
      rw [← List.tail_drop, hd]
      rfl
    have hlt : i < s.xs.length := (List.getElem?_eq_some_iff.mp hx).1
    obtain ⟨_, hgo⟩ := hJ Hc _ M2 e2 hr2 ok
    obtain ⟨h3, h4⟩ := hgo i x hx
    refine .inr ⟨h3, fun Hn => ∃ ids M acc us, Ext H1 ρ1 Hn ⟨ids, D :: ρ1.z⟩ ∧ (∀ a ∈ ρ1.z, Hn a = H1 a) ∧ HR g.K Hn ⟨ids, D :: ρ1.z⟩ M ∧ Hn D = some (.lst us) ∧ Rels g.K Hn ⟨ids, D :: ρ1.z⟩ acc us ∧
      PostN g σ H1 ρ1 Q (lcF s.gs t c e (wipeN η vs) xs acc M), fun Hn n' => ⟨m - 1, by omega, by omega, by rw [hxs]; exact n'⟩, fun v H3 y => ?_⟩
    obtain ⟨k3, rv⟩ := h4 v H3 y
    have s3 : Step Hc ⟨ids, D :: ρ1.z⟩ H3 ⟨ids, D :: ρ1.z⟩ := Step.ext hr2 k3
    have hr3 := hr2.ext k3
    refine ⟨_, M2, wipeN η vs, x, hr3, (er1.mono e2 hr1).mono s3.toExt hr2, rv, ?_⟩
    refine PostN.thenF h2 fun σ4 H4 ρ4 M4 η4 s4 hr4 er4 b4 h5 => ⟨wipe_sb b4 hts, ρ4, M4, η4, hr4, er4, ?_⟩
    refine PostN.bindF h5 fun k M5 H5 ρ5 s5 hr5 h6 => ?_
    have s35 : Step Hc ⟨ids, D :: ρ1.z⟩ H5 ρ5 := (s3.trans s4 hr3).trans s5 hr4
    obtain ⟨ids5, z5⟩ := ρ5
    obtain rfl : z5 = D :: ρ1.z := s35.z
    have sub : ∀ a ∈ ρ1.z, a ∈ D :: ρ1.z := fun a ha => List.mem_cons_of_mem _ ha
    cases k with
    | false =>
      rw [if_neg Bool.false_ne_true] at h6
      show _
      refine ⟨ids5, M5, acc, us, e2.trans s35.toExt, fun a ha => (s35.zk a (sub a ha)).trans (zk2 a ha), hr5, (s35.zk D List.mem_cons_self).trans hd2, ra.mono s35.toExt hr2 _ _, h6⟩
    | true =>
      rw [if_pos rfl] at h6
      refine ⟨_, M5, η4, hr5, er4.mono s5.toExt hr4, ?_⟩
      refine PostN.bindF h6 fun yd M6 H6 ρ6 s6 hr6 h7 u ru => ?_
      have s36 := s35.trans s6 hr5
      obtain ⟨ids6, z6⟩ := ρ6
      obtain rfl : z6 = D :: ρ1.z := s36.z
      have hd6 : H6 D = some (.lst us) := (s36.zk D List.mem_cons_self).trans hd2
      have ra6 := ra.mono s36.toExt hr2 _ _
      split at h7
      · rename_i hlen
        have hw : Ext H6 ⟨ids6, D :: ρ1.z⟩ (upd H6 D (.lst (us ++ [u]))) ⟨ids6, D :: ρ1.z⟩ := Ext.write (List.mem_append_right _ List.mem_cons_self)
        refine ⟨us, hd6, by rw [← ra.length]; exact hlen, ids6, M6, acc ++ [yd], us ++ [u], (e2.trans s36.toExt).trans hw, fun a ha => ?_, hr6.writeZ List.mem_cons_self trivial, upd_same, (ra6.append (Rels.one ru)).mono hw hr6 _ _, h7⟩
        rw [upd_ne fun z => hr6.pn (List.mem_append_right _ (by rw [← z]; exact ha))]
        exact (s36.zk a (sub a ha)).trans (zk2 a ha)
      · exact h7.elim
end
end NV
end
section
set_option Elab.async false
set_option linter.all false
set_option maxRecDepth 100000
set_option maxHeartbeats 4000000
set_option autoImplicit false
namespace NV
open PySem PySem.Spec L2

/-! ### lists, tuples, texts walked -/
def gsOf (M : MS) : D → List (Nat × List D)
  | .ref n => match M[n]? with
    | some (.lst xs) => [(n, xs)]
    | _ => []
  | _ => []
def charsD (s : Str) : List D := s.cps.toList.map fun c => .str ⟨#[c]⟩
def srcOf (M : MS) (x : D) : Option Src := match seqOf M x with
  | some xs => some ⟨xs, gsOf M x⟩
  | none => match x with
    | .str s => some ⟨charsD s, []⟩
    | _ => none
def fSrc (f : Fx D) : Fx Src := fun η M => bindR (f η M) fun x M1 => match srcOf M1 x with
  | some s => .ok s M1
  | none => .fail
def iAnyM (K : PySem.W.Frag) (te : TE) : TI := fun σ H R => te σ H fun v H1 => (∃ a, v = .ref a ∧ (∃ xs, SqL K H1 a xs) ∧ R (Itl K a) H1) ∨ (∃ a, v = .ref a ∧ (∃ xs, SqT K H1 a xs) ∧ R (Itt K a) H1) ∨ ∃ x, v = .str x ∧ R (Its x) H1
section
variable {X : Cx} {tg e : Expr} {te : TE}
theorem pi_anyM (he : PE X e te) : PI X tg e (iAnyM X.K te) := by
  constructor
  intro pins s σ H R I h
  apply thn (he.run pins s σ H _ I h)
  rintro v s1 ⟨x, H1, I1, r1, (⟨a, rfl, ⟨xs, hq⟩, q⟩ | ⟨a, rfl, ⟨xs, hq⟩, q⟩ | ⟨x, rfl, q⟩)⟩
  · cases r1
    have ⟨its, rv, p, hz⟩ := I1.list hq
    exact wpAny_pyIter_list p.isList (pi_one (tk := s1.toks) I1 _ (turn_list a _) ⟨_, Heap.get?_push_size _ rfl, rfl, rfl⟩ q)
  · cases r1
    have ⟨its, rv, p, hz⟩ := I1.tuple hq
    exact wpAny_pyIter_tuple (show s1.heap.IsTuple a its.toArray from p) (pi_one (tk := s1.toks) I1 _ (turn_tuple a _) ⟨_, Heap.get?_push_size _ rfl, rfl, rfl⟩ q)
  · have ⟨t, e⟩ := r1
    subst e
    cases ha : x.cps.all (· < 128)
    · exact wpAny_pyIter_wide ha (pi_one (tk := s1.toks) I1 _ (turn_str _ x t "str_iterator" (.inr rfl)) ⟨_, Heap.get?_push_size _ rfl, rfl, rfl⟩ q)
    · exact wpAny_pyIter_ascii ha (pi_one (tk := s1.toks) I1 _ (turn_str _ x t "str_ascii_iterator" (.inl rfl)) ⟨_, Heap.get?_push_size _ rfl, rfl, rfl⟩ q)
end
section
variable {K : PySem.W.Frag} {H : Hp} {ρ : RS} {M : MS}
theorem seqs_l {a : Addr} {s : Src} (h : ∀ H2 ρ2 M2, Ext H ρ H2 ρ2 → HR K H2 ρ2 M2 → gOk s.gs M2 → ∃ vs, SqL K H2 a vs ∧ Rels K H2 ρ2 s.xs vs) : Seqs K (Itl K a) s H ρ := fun H2 ρ2 M2 e hr ok => by
  obtain ⟨vs, hq, r⟩ := h H2 ρ2 M2 e hr ok
  refine ⟨⟨vs, hq, by rw [r.length]; exact Nat.le_refl _⟩, fun i d hd => ?_⟩
  obtain ⟨v, hv, rv⟩ := r.get hd
  refine ⟨⟨vs, v, hq, hv⟩, fun x H3 y => ?_⟩
  obtain ⟨rfl, y⟩ := y
  have := y vs hq
  rw [hv] at this
  cases this
  exact ⟨fun _ _ h => h, rv⟩
theorem seqs_t {a : Addr} {s : Src} (h : ∀ H2 ρ2 M2, Ext H ρ H2 ρ2 → HR K H2 ρ2 M2 → gOk s.gs M2 → ∃ vs, SqT K H2 a vs ∧ Rels K H2 ρ2 s.xs vs) : Seqs K (Itt K a) s H ρ := fun H2 ρ2 M2 e hr ok => by
  obtain ⟨vs, hq, r⟩ := h H2 ρ2 M2 e hr ok
  refine ⟨⟨vs, hq, by rw [r.length]; exact Nat.le_refl _⟩, fun i d hd => ?_⟩
  obtain ⟨v, hv, rv⟩ := r.get hd
  refine ⟨⟨vs, v, hq, hv⟩, fun x H3 y => ?_⟩
  obtain ⟨rfl, y⟩ := y
  have := y vs hq
  rw [hv] at this
  cases this
  exact ⟨fun _ _ h => h, rv⟩
/-- a list as it stands now and later, while what is boxed of it is as it was -/
theorem ls_later {x : D} {v : V} {xs : List D} (hr : HR K H ρ M) (e : lsOf M x = some xs) (r : Rel K H ρ x v) : ∃ a, v = .ref a ∧ ∀ H2 ρ2 M2, Ext H ρ H2 ρ2 → HR K H2 ρ2 M2 → gOk (gsOf M x) M2 → ∃ vs, SqL K H2 a vs ∧ Rels K H2 ρ2 xs vs := by
  cases x with
  | lst ys =>
    cases e
    obtain ⟨a, vs, rfl, h, rs⟩ := r
    exact ⟨a, rfl, fun H2 ρ2 M2 e2 hr2 _ => ⟨vs, (e2.lsR h).sqL, rs.mono e2 hr _ _⟩⟩
  | frl ys =>
    cases e
    obtain ⟨a, vs, rfl, h, rs⟩ := r
    exact ⟨a, rfl, fun H2 ρ2 M2 e2 hr2 _ => ⟨vs, (e2.frR h).sqL, rs.mono e2 hr _ _⟩⟩
  | ref n =>
    have e : (match M[n]? with | some (.lst xs) => some xs | _ => none) = some xs := e
    split at e
    · rename_i ys q
      cases e
      obtain ⟨a, rfl, ha⟩ := r
      refine ⟨a, rfl, fun H2 ρ2 M2 e2 hr2 ok => ?_⟩
      have hM : M2[n]? = some (.lst xs) := ok (n, xs) (by simp [gsOf, q])
      have ha2 : ρ2.ids[n]? = some a := by
        obtain ⟨m, em⟩ := e2.more
        rw [em, List.getElem?_append_left (List.getElem?_eq_some_iff.mp ha).1]
        exact ha
      obtain ⟨vs, h1, h2⟩ := hr2.at_ n _ hM a ha2
      exact ⟨vs, SqL.of h1, h2⟩
    · cases e
  | _ => cases e
theorem tp_later {x : D} {v : V} {xs : List D} (hr : HR K H ρ M) (e : tpOf x = some xs) (r : Rel K H ρ x v) : ∃ a, v = .ref a ∧ ∀ H2 ρ2 M2, Ext H ρ H2 ρ2 → HR K H2 ρ2 M2 → ∃ vs, SqT K H2 a vs ∧ Rels K H2 ρ2 xs vs := by
  obtain ⟨a, vs, rfl, h, rs⟩ := tp_rel e r
  exact ⟨a, rfl, fun H2 ρ2 M2 e2 hr2 => ⟨vs, e2.sqT hr h, rs.mono e2 hr _ _⟩⟩
theorem seqs_str {s : Str} (ho : SOk s) : Seqs K (Its s) ⟨charsD s, []⟩ H ρ := fun H2 ρ2 M2 e hr ok => by
  have hl : (charsD s).length = s.cps.size := by simp [charsD]
  refine ⟨by show s.cps.size ≤ (charsD s).length; omega, fun i d hd => ?_⟩
  have hd : (charsD s)[i]? = some d := hd
  have hi := (List.getElem?_eq_some_iff.mp hd).1
  refine ⟨by show i < s.cps.size; omega, fun x H3 y => ?_⟩
  obtain ⟨rfl, c, hc, rfl⟩ := y
  refine ⟨fun _ _ h => h, ?_⟩
  have e1 : (charsD s)[i]? = some (.str ⟨#[c]⟩) := by
    unfold charsD
    rw [List.getElem?_map, show s.cps.toList[i]? = some c by simpa using hc]
    rfl
  rw [e1] at hd
  cases hd
  exact ⟨rfl, strOk_one ho.1 (Array.mem_toList_iff.mpr (Array.mem_of_getElem? hc))⟩
end
section
variable {X : Cx} {g : GW} {tg e : Expr} {f : Fx D}
theorem di_any (hk : g.K = X.K) (he : PE X e (tE g f)) : PI X tg e (tI g (fSrc f)) := by
  refine PI.imp (pi_anyM he) fun σ H R h => ?_
  rw [← hk]
  obtain ⟨ρ, M, η, hr, er, h⟩ := h
  refine ⟨ρ, M, η, hr, er, h.bind.mono fun x M1 H1 ρ1 s1 hr1 h1 v rv => ?_⟩
  cases hs : srcOf M1 x with
  | none => rw [hs] at h1; exact h1.elim
  | some s =>
    rw [hs] at h1
    have h1 := h1 H1 ρ1 (Step.refl H1 ρ1) hr1
    unfold srcOf at hs
    split at hs
    · rename_i xs hq
      cases hs
      unfold seqOf at hq
      split at hq
      · rename_i ys hx
        cases hq
        obtain ⟨a, rfl, k⟩ := ls_later hr1 hx rv
        obtain ⟨a', vs, e', hq, _⟩ := ls_rel hr1 hx rv
        cases e'
        exact .inl ⟨a, rfl, ⟨vs, hq⟩, h1 _ (seqs_l k)⟩
      · obtain ⟨a, rfl, k⟩ := tp_later hr1 hq rv
        obtain ⟨a', vs, e', hq', _⟩ := tp_rel hq rv
        cases e'
        exact .inr (.inl ⟨a, rfl, ⟨vs, hq'⟩, h1 _ (seqs_t fun H2 ρ2 M2 e2 hr2 _ => k H2 ρ2 M2 e2 hr2)⟩)
    · split at hs
      · cases hs
        exact .inr (.inr ⟨_, rv.1, h1 _ (seqs_str rv.2)⟩)
      · cases hs
end

/-! ### ranges -/
def rangeD (lo : Int) (n : Nat) : List D := (List.range n).map fun i => .int (lo + (i : Nat))
def rng1 (xs : List D) : Option Src := match xs with
  | [.int j] => if -(2 ^ 62) ≤ j ∧ j < 2 ^ 62 then some ⟨rangeD 0 j.toNat, []⟩ else none
  | _ => none
def rng2 (xs : List D) : Option Src := match xs with
  | [.int i, .int j] => if -(2 ^ 62) ≤ i ∧ i < 2 ^ 62 ∧ -(2 ^ 62) ≤ j ∧ j < 2 ^ 62 then some ⟨rangeD i (j - i).toNat, []⟩ else none
  | _ => none
def fRng (r : List D → Option Src) (f : Fx (List D)) : Fx Src := fun η M => bindR (f η M) fun xs M1 => match r xs with
  | some s => .ok s M1
  | none => .fail
section
variable {X : Cx} {g : GW} {tg a b : Expr} {fs : Fx (List D)} {p pos : Pos} {K : PySem.W.Frag} {H : Hp} {ρ : RS}
theorem seqs_range {lo : Int} {n : Nat} : Seqs K (Itr lo n) ⟨rangeD lo n, []⟩ H ρ := fun H2 ρ2 M2 e hr ok => by
  have hl : (rangeD lo n).length = n := by simp [rangeD]
  refine ⟨by show n ≤ (rangeD lo n).length; omega, fun i d hd => ?_⟩
  have hd : (rangeD lo n)[i]? = some d := hd
  have hi := (List.getElem?_eq_some_iff.mp hd).1
  refine ⟨by show i < n; omega, fun x H3 y => ?_⟩
  obtain ⟨rfl, rfl⟩ := y
  refine ⟨fun _ _ h => h, ?_⟩
  have e1 : (rangeD lo n)[i]? = some (.int (lo + (i : Nat))) := by
    unfold rangeD
    rw [List.getElem?_map, List.getElem?_range (by omega)]
    rfl
  rw [e1] at hd
  cases hd
  rfl
theorem di_range1 (hg : Gl X "range") (hm : X.mg "range" = none) (ha : PA X [a] (tA g fs)) (hs : starEach [a] X.env = [(false, eval a X.env)]) : PI X tg (.Call (.Name "range" p) [a] [] pos) (tI g (fRng rng1 fs)) := by
  refine PI.imp (pi_range1 hg hm ha hs) fun σ H R h => ?_
  obtain ⟨ρ, M, η, hr, er, h⟩ := h
  refine ⟨ρ, M, η, hr, er, h.bind.mono fun xs M1 H1 ρ1 s1 hr1 h1 vs rv => ?_⟩
  cases hq : rng1 xs with
  | none => rw [hq] at h1; exact h1.elim
  | some s =>
    rw [hq] at h1
    have h1 := h1 H1 ρ1 (Step.refl H1 ρ1) hr1
    unfold rng1 at hq
    split at hq
    · split at hq
      · rename_i hb
        cases hq
        obtain ⟨u, rfl, ru⟩ := rels1 rv
        exact ⟨_, by rw [show u = _ from ru], hb.1, hb.2, h1 _ seqs_range⟩
      · cases hq
    · cases hq
theorem di_range2 (hg : Gl X "range") (hm : X.mg "range" = none) (ha : PA X [a, b] (tA g fs)) (hs : starEach [a, b] X.env = [(false, eval a X.env), (false, eval b X.env)]) (hs2 : starEach [b] X.env = [(false, eval b X.env)]) :
    PI X tg (.Call (.Name "range" p) [a, b] [] pos) (tI g (fRng rng2 fs)) := by
  refine PI.imp (pi_range2 hg hm ha hs hs2) fun σ H R h => ?_
  obtain ⟨ρ, M, η, hr, er, h⟩ := h
  refine ⟨ρ, M, η, hr, er, h.bind.mono fun xs M1 H1 ρ1 s1 hr1 h1 vs rv => ?_⟩
  cases hq : rng2 xs with
  | none => rw [hq] at h1; exact h1.elim
  | some s =>
    rw [hq] at h1
    have h1 := h1 H1 ρ1 (Step.refl H1 ρ1) hr1
    unfold rng2 at hq
    split at hq
    · split at hq
      · rename_i hb
        cases hq
        obtain ⟨u, v, rfl, ru, rv⟩ := rels2 rv
        exact ⟨_, _, by rw [show u = _ from ru, show v = _ from rv], hb, h1 _ seqs_range⟩
      · cases hq
    · cases hq
end
end NV
end
section
set_option Elab.async false
set_option linter.all false
set_option maxRecDepth 100000
set_option maxHeartbeats 4000000
set_option autoImplicit false
namespace NV
open PySem PySem.Spec L2

/-! ### data without the later boxed objects -/
mutual
def D.cl (k : Nat) : D → Bool
  | .ref n => decide (n < k)
  | .tup xs => cls k xs
  | .lst xs => cls k xs
  | .frl xs => cls k xs
  | .frt xs => cls k xs
  | .dcK kvs => clK k kvs
  | .dcT kvs => clT k kvs
  | .non => true
  | .bl _ => true
  | .int _ => true
  | .str _ => true
  | .ty _ => true
def cls (k : Nat) : List D → Bool
  | [] => true
  | x :: xs => D.cl k x && cls k xs
def clK (k : Nat) : List (Key × D) → Bool
  | [] => true
  | (_, d) :: r => D.cl k d && clK k r
def clT (k : Nat) : List (List Key × D) → Bool
  | [] => true
  | (_, d) :: r => D.cl k d && clT k r
end
def MO.cl (k : Nat) : MO → Bool
  | .lst xs => cls k xs
  | .dcK kvs => clK k kvs
  | .dcT kvs => clT k kvs
  | .lkK kvs => clK k kvs
  | .lkT kvs => clT k kvs
section
variable {K : PySem.W.Frag} {H : Hp} {ρ : RS}
mutual
theorem rel_cl : ∀ (d : D) (v : V), Rel K H ρ d v → d.cl ρ.ids.length = true
  | .ref n, v, h => by
    obtain ⟨a, _, q⟩ := h
    exact decide_eq_true (List.getElem?_eq_some_iff.mp q).1
  | .tup xs, v, h => by
    obtain ⟨a, vs, _, _, r⟩ := h
    exact rels_cl xs vs r
  | .lst xs, v, h => by
    obtain ⟨a, vs, _, _, r⟩ := h
    exact rels_cl xs vs r
  | .frl xs, v, h => by
    obtain ⟨a, vs, _, _, r⟩ := h
    exact rels_cl xs vs r
  | .frt xs, v, h => by
    obtain ⟨a, vs, _, _, r⟩ := h
    exact rels_cl xs vs r
  | .dcK kvs, v, h => by
    obtain ⟨a, us, _, _, _, r⟩ := h
    exact relk_cl kvs us r
  | .dcT kvs, v, h => by
    obtain ⟨a, us, _, _, _, r⟩ := h
    exact relt_cl kvs us r
  | .non, _, _ => rfl
  | .bl _, _, _ => rfl
  | .int _, _, _ => rfl
  | .str _, _, _ => rfl
  | .ty _, _, _ => rfl
theorem rels_cl : ∀ (xs : List D) (vs : List V), Rels K H ρ xs vs → cls ρ.ids.length xs = true
  | [], _, _ => rfl
  | x :: xs, vs, h => by
    obtain ⟨v, r, _, h1, h2⟩ := h
    show (D.cl _ x && cls _ xs) = true
    rw [rel_cl x v h1, rels_cl xs r h2]
    rfl
theorem relk_cl : ∀ (xs : List (Key × D)) (vs : List (Key × V)), RelK K H ρ xs vs → clK ρ.ids.length xs = true
  | [], _, _ => rfl
  | (k, x) :: xs, vs, h => by
    obtain ⟨v, r, _, _, h1, h2⟩ := h
    show (D.cl _ x && clK _ xs) = true
    rw [rel_cl x v h1, relk_cl xs r h2]
    rfl
theorem relt_cl : ∀ (xs : List (List Key × D)) (vs : List (List Key × V)), RelT K H ρ xs vs → clT ρ.ids.length xs = true
  | [], _, _ => rfl
  | (k, x) :: xs, vs, h => by
    obtain ⟨v, r, _, _, h1, h2⟩ := h
    show (D.cl _ x && clT _ xs) = true
    rw [rel_cl x v h1, relt_cl xs r h2]
    rfl
end
theorem ob_cl {a : Addr} {o : MO} (h : ObR K H ρ a o) : o.cl ρ.ids.length = true := by
  cases o with
  | lst xs => obtain ⟨vs, _, r⟩ := h; exact rels_cl xs vs r
  | dcK xs => obtain ⟨vs, _, r⟩ := h; exact relk_cl xs vs r
  | dcT xs => obtain ⟨vs, _, r⟩ := h; exact relt_cl xs vs r
  | lkK xs => obtain ⟨vs, _, _, r⟩ := h; exact relk_cl xs vs r
  | lkT xs => obtain ⟨vs, _, _, r⟩ := h; exact relt_cl xs vs r
/-- the later boxed objects forgotten -/
def RS.cut (ρ : RS) (k : Nat) : RS := ⟨ρ.ids.take k, ρ.z⟩
theorem cut_all {k : Nat} {a : Addr} (h : a ∈ (ρ.cut k).all) : a ∈ ρ.all := by
  rcases List.mem_append.mp h with h | h
  · exact List.mem_append_left _ (List.mem_of_mem_take h)
  · exact List.mem_append_right _ h
/-- fewer boxed objects, the first k by the same numbers -/
structure SubR (k : Nat) (ρ ρ2 : RS) : Prop where
  all : ∀ a ∈ ρ2.all, a ∈ ρ.all
  ix : ∀ n, n < k → ρ2.ids[n]? = ρ.ids[n]?
theorem SubR.cut (ρ : RS) (k : Nat) : SubR k ρ (ρ.cut k) := ⟨fun _ h => cut_all h, fun n hn => List.getElem?_take_of_lt hn⟩
variable {k : Nat} {ρ2 : RS}
mutual
theorem rel_cut (sb : SubR k ρ ρ2) : ∀ (d : D) (v : V), Rel K H ρ d v → d.cl k = true → Rel K H ρ2 d v
  | .ref n, v, h, c => by
    obtain ⟨a, e, q⟩ := h
    have hn : n < k := of_decide_eq_true c
    exact ⟨a, e, (sb.ix n hn).trans q⟩
  | .tup xs, v, h, c => by
    obtain ⟨a, vs, e, q, r⟩ := h
    exact ⟨a, vs, e, q, rels_cut sb xs vs r c⟩
  | .lst xs, v, h, c => by
    obtain ⟨a, vs, e, q, r⟩ := h
    exact ⟨a, vs, e, ⟨q.1, fun z => q.2 (sb.all _ z)⟩, rels_cut sb xs vs r c⟩
  | .frl xs, v, h, c => by
    obtain ⟨a, vs, e, q, r⟩ := h
    refine ⟨a, vs, e, ?_, rels_cut sb xs vs r c⟩
    rcases q with ⟨q, n⟩ | q
    · exact .inl ⟨q, fun z => n (sb.all _ z)⟩
    · exact .inr q
  | .frt xs, v, h, c => by
    obtain ⟨a, vs, e, q, r⟩ := h
    exact ⟨a, vs, e, q, rels_cut sb xs vs r c⟩
  | .dcK kvs, v, h, c => by
    obtain ⟨a, us, e, n, q, r⟩ := h
    exact ⟨a, us, e, fun z => n (sb.all _ z), q, relk_cut sb kvs us r c⟩
  | .dcT kvs, v, h, c => by
    obtain ⟨a, us, e, n, q, r⟩ := h
    exact ⟨a, us, e, fun z => n (sb.all _ z), q, relt_cut sb kvs us r c⟩
  | .non, _, h, _ => h
  | .bl _, _, h, _ => h
  | .int _, _, h, _ => h
  | .str _, _, h, _ => h
  | .ty _, _, h, _ => h
theorem rels_cut (sb : SubR k ρ ρ2) : ∀ (xs : List D) (vs : List V), Rels K H ρ xs vs → cls k xs = true → Rels K H ρ2 xs vs
  | [], _, h, _ => h
  | x :: xs, vs, h, c => by
    obtain ⟨v, r, e, h1, h2⟩ := h
    have c : (D.cl k x && cls k xs) = true := c
    rw [Bool.and_eq_true] at c
    exact ⟨v, r, e, rel_cut sb x v h1 c.1, rels_cut sb xs r h2 c.2⟩
theorem relk_cut (sb : SubR k ρ ρ2) : ∀ (xs : List (Key × D)) (vs : List (Key × V)), RelK K H ρ xs vs → clK k xs = true → RelK K H ρ2 xs vs
  | [], _, h, _ => h
  | (q, x) :: xs, vs, h, c => by
    obtain ⟨v, r, e, ho, h1, h2⟩ := h
    have c : (D.cl k x && clK k xs) = true := c
    rw [Bool.and_eq_true] at c
    exact ⟨v, r, e, ho, rel_cut sb x v h1 c.1, relk_cut sb xs r h2 c.2⟩
theorem relt_cut (sb : SubR k ρ ρ2) : ∀ (xs : List (List Key × D)) (vs : List (List Key × V)), RelT K H ρ xs vs → clT k xs = true → RelT K H ρ2 xs vs
  | [], _, h, _ => h
  | (q, x) :: xs, vs, h, c => by
    obtain ⟨v, r, e, ho, h1, h2⟩ := h
    have c : (D.cl k x && clT k xs) = true := c
    rw [Bool.and_eq_true] at c
    exact ⟨v, r, e, ho, rel_cut sb x v h1 c.1, relt_cut sb xs r h2 c.2⟩
end
theorem ob_cut (sb : SubR k ρ ρ2) {a : Addr} {o : MO} (h : ObR K H ρ a o) (c : o.cl k = true) : ObR K H ρ2 a o := by
  cases o with
  | lst xs => obtain ⟨vs, e, r⟩ := h; exact ⟨vs, e, rels_cut sb xs vs r c⟩
  | dcK xs => obtain ⟨vs, e, r⟩ := h; exact ⟨vs, e, relk_cut sb xs vs r c⟩
  | dcT xs => obtain ⟨vs, e, r⟩ := h; exact ⟨vs, e, relt_cut sb xs vs r c⟩
  | lkK xs => obtain ⟨vs, o, e, r⟩ := h; exact ⟨vs, o, e, relk_cut sb xs vs r c⟩
  | lkT xs => obtain ⟨vs, o, e, r⟩ := h; exact ⟨vs, o, e, relt_cut sb xs vs r c⟩
end

/-! ### what a def gives back: new boxed lists and dicts are frozen -/
def optAll {α : Type} : List (Option α) → Option (List α)
  | [] => some []
  | some x :: r => (optAll r).map fun xs => x :: xs
  | none :: _ => none
def frz (M : MS) (k : Nat) : Nat → D → Option D
  | 0, d => if d.cl k = true then some d else none
  | f + 1, d => if d.cl k = true then some d else match d with
    | .ref n => if n < k then none else match M[n]? with
      | some (.lst xs) => (optAll (xs.map (frz M k f))).map .lst
      | some (.dcK kvs) => (optAll (kvs.map fun kv => (frz M k f kv.2).map fun d => (kv.1, d))).map .dcK
      | some (.lkK kvs) => (optAll (kvs.map fun kv => (frz M k f kv.2).map fun d => (kv.1, d))).map .dcK
      | some (.dcT kvs) => (optAll (kvs.map fun kv => (frz M k f kv.2).map fun d => (kv.1, d))).map .dcT
      | some (.lkT kvs) => (optAll (kvs.map fun kv => (frz M k f kv.2).map fun d => (kv.1, d))).map .dcT
      | none => none
    | .tup xs => (optAll (xs.map (frz M k f))).map .tup
    | .lst xs => (optAll (xs.map (frz M k f))).map .lst
    | .dcK kvs => (optAll (kvs.map fun kv => (frz M k f kv.2).map fun d => (kv.1, d))).map .dcK
    | .dcT kvs => (optAll (kvs.map fun kv => (frz M k f kv.2).map fun d => (kv.1, d))).map .dcT
    | _ => none
section
variable {K : PySem.W.Frag} {H : Hp} {ρ : RS} {M : MS} {k : Nat}
theorem frzs_rel {f : D → Option D} (ih : ∀ d d' v, f d = some d' → Rel K H ρ d v → Rel K H (ρ.cut k) d' v) : ∀ {xs xs' : List D} {vs : List V}, optAll (xs.map f) = some xs' → Rels K H ρ xs vs → Rels K H (ρ.cut k) xs' vs
  | [], xs', vs, e, r => by cases e; exact r
  | x :: xs, xs', vs, e, r => by
    obtain ⟨v, w, rfl, h1, h2⟩ := r
    rw [List.map_cons] at e
    cases q : f x with
    | none => rw [q] at e; cases e
    | some y =>
      rw [q] at e
      have e : (optAll (xs.map f)).map (fun xs => y :: xs) = some xs' := e
      cases q2 : optAll (xs.map f) with
      | none => rw [q2] at e; cases e
      | some ys =>
        rw [q2] at e
        cases e
        exact ⟨v, w, rfl, ih x y v q h1, frzs_rel ih q2 h2⟩
theorem frzk_rel {f : D → Option D} (ih : ∀ d d' v, f d = some d' → Rel K H ρ d v → Rel K H (ρ.cut k) d' v) : ∀ {xs xs' : List (Key × D)} {vs : List (Key × V)}, optAll (xs.map fun kv => (f kv.2).map fun d => (kv.1, d)) = some xs' → RelK K H ρ xs vs → RelK K H (ρ.cut k) xs' vs
  | [], xs', vs, e, r => by cases e; exact r
  | (q, x) :: xs, xs', vs, e, r => by
    obtain ⟨v, w, rfl, ho, h1, h2⟩ := r
    rw [List.map_cons] at e
    cases q1 : f x with
    | none => rw [q1] at e; cases e
    | some y =>
      rw [q1] at e
      have e : (optAll (xs.map fun kv => (f kv.2).map fun d => (kv.1, d))).map (fun xs => (q, y) :: xs) = some xs' := e
      cases q2 : optAll (xs.map fun kv => (f kv.2).map fun d => (kv.1, d)) with
      | none => rw [q2] at e; cases e
      | some ys =>
        rw [q2] at e
        cases e
        exact ⟨v, w, rfl, ho, ih x y v q1 h1, frzk_rel ih q2 h2⟩
theorem frzt_rel {f : D → Option D} (ih : ∀ d d' v, f d = some d' → Rel K H ρ d v → Rel K H (ρ.cut k) d' v) : ∀ {xs xs' : List (List Key × D)} {vs : List (List Key × V)}, optAll (xs.map fun kv => (f kv.2).map fun d => (kv.1, d)) = some xs' → RelT K H ρ xs vs → RelT K H (ρ.cut k) xs' vs
  | [], xs', vs, e, r => by cases e; exact r
  | (q, x) :: xs, xs', vs, e, r => by
    obtain ⟨v, w, rfl, ho, h1, h2⟩ := r
    rw [List.map_cons] at e
    cases q1 : f x with
    | none => rw [q1] at e; cases e
    | some y =>
      rw [q1] at e
      have e : (optAll (xs.map fun kv => (f kv.2).map fun d => (kv.1, d))).map (fun xs => (q, y) :: xs) = some xs' := e
      cases q2 : optAll (xs.map fun kv => (f kv.2).map fun d => (kv.1, d)) with
      | none => rw [q2] at e; cases e
      | some ys =>
        rw [q2] at e
        cases e
        exact ⟨v, w, rfl, ho, ih x y v q1 h1, frzt_rel ih q2 h2⟩
theorem opt_map {α β : Type} {o : Option α} {f : α → β} {y : β} (e : o.map f = some y) : ∃ x, o = some x ∧ y = f x := by
  cases o with
  | none => cases e
  | some x => cases e; exact ⟨x, rfl, rfl⟩
theorem notin_cut {n : Nat} {a : Addr} (nd : ρ.all.Nodup) (q : ρ.ids[n]? = some a) (h : ¬ n < k) : a ∉ (ρ.cut k).all := by
  intro hm
  obtain ⟨n1, _, d⟩ := List.nodup_append.mp nd
  rcases List.mem_append.mp hm with hm | hm
  · have hm : a ∈ ρ.ids.take k := hm
    obtain ⟨m, hm', e⟩ := List.getElem_of_mem hm
    rw [List.getElem_take] at e
    have h1 : m < k := by
      have : m < (ρ.ids.take k).length := hm'
      rw [List.length_take] at this
      omega
    obtain ⟨h2, e2⟩ := List.getElem?_eq_some_iff.mp q
    have := (List.getElem_inj n1).mp (e.trans e2.symm)
    omega
  · exact d a (List.mem_of_getElem? q) a hm rfl
theorem frz_rel (hr : HR K H ρ M) : ∀ (f : Nat) (d d' : D) (v : V), frz M k f d = some d' → Rel K H ρ d v → Rel K H (ρ.cut k) d' v
  | 0, d, d', v, e, r => by
    unfold frz at e
    split at e
    · cases e; exact rel_cut (SubR.cut ρ k) d v r (by assumption)
    · cases e
  | f + 1, d, d', v, e, r => by
    have ih := frz_rel hr f
    unfold frz at e
    split at e
    · cases e; exact rel_cut (SubR.cut ρ k) d v r (by assumption)
    · split at e
      · rename_i n _
        split at e
        · cases e
        · rename_i hn
          have r' := r
          obtain ⟨a, rfl, qa⟩ := r'
          have na := notin_cut hr.nd qa hn
          split at e
          · rename_i xs hx
            obtain ⟨xs', e1, rfl⟩ := opt_map e
            obtain ⟨vs, h1, h2⟩ := hr.at_ n _ hx a qa
            exact ⟨a, vs, rfl, ⟨h1, na⟩, frzs_rel ih e1 h2⟩
          · rename_i xs hx
            obtain ⟨xs', e1, rfl⟩ := opt_map e
            obtain ⟨vs, h1, h2⟩ := hr.at_ n _ hx a qa
            exact ⟨a, vs, rfl, na, .inl h1, frzk_rel ih e1 h2⟩
          · rename_i xs hx
            obtain ⟨xs', e1, rfl⟩ := opt_map e
            obtain ⟨vs, o, h1, h2⟩ := hr.at_ n _ hx a qa
            exact ⟨a, vs, rfl, na, .inr ⟨o, h1⟩, frzk_rel ih e1 h2⟩
          · rename_i xs hx
            obtain ⟨xs', e1, rfl⟩ := opt_map e
            obtain ⟨vs, h1, h2⟩ := hr.at_ n _ hx a qa
            exact ⟨a, vs, rfl, na, .inl h1, frzt_rel ih e1 h2⟩
          · rename_i xs hx
            obtain ⟨xs', e1, rfl⟩ := opt_map e
            obtain ⟨vs, o, h1, h2⟩ := hr.at_ n _ hx a qa
            exact ⟨a, vs, rfl, na, .inr ⟨o, h1⟩, frzt_rel ih e1 h2⟩
          · cases e
      · rename_i xs
        obtain ⟨xs', e1, rfl⟩ := opt_map e
        obtain ⟨a, vs, rfl, q, r2⟩ := r
        exact ⟨a, vs, rfl, q, frzs_rel ih e1 r2⟩
      · rename_i xs
        obtain ⟨xs', e1, rfl⟩ := opt_map e
        obtain ⟨a, vs, rfl, q, r2⟩ := r
        exact ⟨a, vs, rfl, ⟨q.1, fun z => q.2 (cut_all z)⟩, frzs_rel ih e1 r2⟩
      · rename_i xs
        obtain ⟨xs', e1, rfl⟩ := opt_map e
        obtain ⟨a, vs, rfl, n, q, r2⟩ := r
        exact ⟨a, vs, rfl, fun z => n (cut_all z), q, frzk_rel ih e1 r2⟩
      · rename_i xs
        obtain ⟨xs', e1, rfl⟩ := opt_map e
        obtain ⟨a, vs, rfl, n, q, r2⟩ := r
        exact ⟨a, vs, rfl, fun z => n (cut_all z), q, frzt_rel ih e1 r2⟩
      · cases e
end

/-! ### defs -/
/-- the older objects behind a call: as they were, or without anything newer -/
def Kept (M M' : MS) : Prop := M.length ≤ M'.length ∧ ∀ n, n < M.length → M'[n]? = M[n]? ∨ ∃ o, M'[n]? = some o ∧ o.cl M.length = true
open Classical in
noncomputable def endF {α : Type} (M M' : MS) (r : α) : Res α := if Kept M M' then .ok r (M'.take M.length) else .fail
open Classical in
noncomputable def endX {α : Type} (M M' : MS) (x : Ex) : Res α := if Kept M M' then (match optAll (x.fs.map fun kv => (frz M' M.length 100 kv.2).map fun d => (kv.1, d)) with
  | some fs => .exc ⟨x.cls, fs⟩ (M'.take M.length)
  | none => .fail) else .fail
noncomputable def retF (M M' : MS) (d : D) : Res D := match frz M' M.length 100 d with
  | some d' => endF M M' d'
  | none => .fail
open Classical in
/-- the same, the list that is given back being boxed -/
noncomputable def retB (M M' : MS) (d : D) : Res D := match d with
  | .ref n => if n < M.length then .fail else match M'[n]? with
    | some o => if o.cl M.length = true ∧ Kept M M' then .ok (.ref M.length) (M'.take M.length ++ [o]) else .fail
    | none => .fail
  | _ => .fail
noncomputable def outF (rt : MS → MS → D → Res D) (M : MS) : SRes → Res D
  | .ret d M' => rt M M' d
  | .nx _ M' => rt M M' .non
  | .exc x _ M' => endX M M' x
  | _ => .fail
noncomputable def bodyF (rt : MS → MS → D → Res D) (np nl : Nat) (b : Sx) : List D → MS → Res D := fun ds M => if ds.length = np then outF rt M (b (ds.map some ++ List.replicate (nl - ds.length) none) M) else .fail
/-- what is wanted behind a call -/
def PostF (K : PySem.W.Frag) (cl : List Addr) (H : Hp) (ρ : RS) (Q : VK) (E : XK) : Res D → Prop
  | .ok d M' => ∀ v H' ρ', Step H ρ H' ρ' → HR K H' ρ' M' → Rel K H' ρ' d v → Q v H'
  | .exc x M' => ∀ cls dd H' ρ', Step H ρ H' ρ' → HR K H' ρ' M' → XR K cl H' ρ' x cls dd → E cls dd H'
  | .fail => False
def spF (K : PySem.W.Frag) (cl : List Addr) (np : Nat) (F : List D → MS → Res D) : Sp := fun vs H Q E => ∃ ρ M ds, HR K H ρ M ∧ Rels K H ρ ds vs ∧ ds.length = np ∧ PostF K cl H ρ Q E (F ds M)
/-- how a def may end -/
def RtOk (K : PySem.W.Frag) (rt : MS → MS → D → Res D) : Prop := ∀ M M' d d' M'' H ρ H' ρ' v, rt M M' d = .ok d' M'' → HR K H ρ M → Step H ρ H' ρ' → HR K H' ρ' M' → Rel K H' ρ' d v → ∃ ρ'', Step H ρ H' ρ'' ∧ HR K H' ρ'' M'' ∧ Rel K H' ρ'' d' v
def RtNx (rt : MS → MS → D → Res D) : Prop := ∀ M M' d x M'', rt M M' d ≠ .exc x M''
section
variable {K : PySem.W.Frag} {H H' : Hp} {ρ ρ' : RS} {M M' : MS}
theorem ids_pre (hr : HR K H ρ M) (s : Step H ρ H' ρ') : (ρ'.cut M.length).ids = ρ.ids := by
  obtain ⟨m, e⟩ := s.more
  show ρ'.ids.take M.length = ρ.ids
  rw [e, ← hr.len, List.take_left]
theorem cut_eq (hr : HR K H ρ M) (s : Step H ρ H' ρ') : ρ'.cut M.length = ρ := by
  have h1 := ids_pre hr s
  have h2 : (ρ'.cut M.length).z = ρ.z := s.z
  cases hρ : ρ'.cut M.length
  cases ρ
  rw [hρ] at h1 h2
  cases h1
  cases h2
  rfl
theorem Step.back_to (s : Step H ρ H' ρ') : Step H ρ H' ρ := ⟨⟨⟨[], by simp⟩, fun _ h => .inl h, s.keep⟩, rfl, s.zk⟩
theorem HR.cut (hr : HR K H ρ M) (s : Step H ρ H' ρ') (hr' : HR K H' ρ' M') (k : Kept M M') : HR K H' ρ (M'.take M.length) := by
  have e := cut_eq hr s
  refine ⟨hr.nd, by rw [List.length_take, hr.len, Nat.min_eq_left k.1], fun n o ho a ha => ?_, fun a ha => ?_⟩
  · have hn : n < M.length := by rw [← hr.len]; exact (List.getElem?_eq_some_iff.mp ha).1
    rw [List.getElem?_take_of_lt hn] at ho
    have ha' : ρ'.ids[n]? = some a := by
      obtain ⟨m, em⟩ := s.more
      rw [em, List.getElem?_append_left (List.getElem?_eq_some_iff.mp ha).1]
      exact ha
    have ob := hr'.at_ n o ho a ha'
    have c : o.cl M.length = true := by
      rcases k.2 n hn with q | ⟨o', q, c⟩
      · rw [q] at ho
        have := ob_cl (hr.at_ n o ho a ha)
        rw [hr.len] at this
        exact this
      · rw [q] at ho; cases ho; exact c
    rw [← e]
    exact ob_cut (SubR.cut _ _) ob c
  · have := hr'.zl a (by rw [s.z]; exact ha)
    exact this
theorem endF_ok {α : Type} {r : α} {z : α} {M'' : MS} (e : endF M M' r = .ok z M'') : z = r ∧ M'' = M'.take M.length ∧ Kept M M' := by
  unfold endF at e
  split at e
  · cases e; exact ⟨rfl, rfl, by assumption⟩
  · cases e
theorem rt_F : RtOk K retF := by
  intro M M' d d' M'' H ρ H' ρ' v e hr s hr' r
  unfold retF at e
  split at e
  · rename_i d2 hd
    obtain ⟨rfl, rfl, k⟩ := endF_ok e
    refine ⟨ρ, s.back_to, hr.cut s hr' k, ?_⟩
    rw [← cut_eq hr s]
    exact frz_rel hr' 100 d _ v hd r
  · cases e
theorem rt_nx : RtNx retF := by
  intro M M' d x M'' e
  unfold retF at e
  split at e
  · unfold endF at e
    split at e <;> cases e
  · cases e
theorem rt_B : RtOk K retB := by
  intro M M' d d' M'' H ρ H' ρ' v e hr s hr' r
  unfold retB at e
  split at e
  · rename_i n
    split at e
    · cases e
    · rename_i hn
      split at e
      · rename_i o ho
        split at e
        · rename_i hk
          cases e
          obtain ⟨a, rfl, qa⟩ := r
          have na := notin_cut hr'.nd qa hn
          rw [cut_eq hr s] at na
          have h0 := hr.cut s hr' hk.2
          have hl : (M'.take M.length).length = ρ.ids.length := by rw [List.length_take, Nat.min_eq_left hk.2.1, hr.len]
          have sb : SubR M.length ρ' ⟨ρ.ids ++ [a], ρ.z⟩ := by
            obtain ⟨m, em⟩ := s.more
            refine ⟨fun b hb => ?_, fun j hj => ?_⟩
            · rcases List.mem_append.mp hb with hb | hb
              · rcases List.mem_append.mp hb with hb | hb
                · exact List.mem_append_left _ (by rw [em]; exact List.mem_append_left _ hb)
                · rw [List.mem_singleton.mp hb]; exact List.mem_append_left _ (List.mem_of_getElem? qa)
              · exact List.mem_append_right _ (by rw [s.z]; exact hb)
            · have hj' : j < ρ.ids.length := by rw [hr.len]; exact hj
              show (ρ.ids ++ [a])[j]? = ρ'.ids[j]?
              rw [em, List.getElem?_append_left hj', List.getElem?_append_left hj']
          have nd : ((ρ.ids ++ [a]) ++ ρ.z).Nodup := by
            rw [List.append_assoc]
            exact (List.perm_middle.nodup_iff).mpr (List.nodup_cons.mpr ⟨na, h0.nd⟩)
          have s2 : Step H ρ H' ⟨ρ.ids ++ [a], ρ.z⟩ := by
            refine ⟨⟨⟨[a], rfl⟩, fun b hb => s.new b (sb.all b hb), s.keep⟩, rfl, s.zk⟩
          refine ⟨⟨ρ.ids ++ [a], ρ.z⟩, s2, ⟨nd, by simp [hl], fun j ob e b q => ?_, fun b hb => h0.zl b hb⟩, a, rfl, ?_⟩
          · have q : (ρ.ids ++ [a])[j]? = some b := q
            by_cases hj : j < M.length
            · rw [List.getElem?_append_left (by rw [hl, hr.len]; exact hj)] at e
              rw [List.getElem?_append_left (by rw [hr.len]; exact hj)] at q
              have q' : ρ'.ids[j]? = some b := by
                obtain ⟨m, em⟩ := s.more
                rw [em, List.getElem?_append_left (by rw [hr.len]; exact hj)]; exact q
              rw [List.getElem?_take_of_lt hj] at e
              have c : ob.cl M.length = true := by
                rcases hk.2.2 j hj with w | ⟨o', w, c⟩
                · rw [w] at e
                  have := ob_cl (hr.at_ j ob e b q)
                  rw [hr.len] at this
                  exact this
                · rw [w] at e; cases e; exact c
              exact ob_cut sb (hr'.at_ j ob e b q') c
            · have hj2 : j = M.length := by
                have := (List.getElem?_eq_some_iff.mp q).1
                rw [List.length_append, hr.len] at this
                simp at this
                omega
              subst hj2
              rw [List.getElem?_append_right (by rw [hl, hr.len]; exact Nat.le_refl _), hl, hr.len] at e
              rw [List.getElem?_append_right (by rw [hr.len]; exact Nat.le_refl _), hr.len] at q
              simp at e q
              subst e q
              exact ob_cut sb (hr'.at_ n o ho a qa) hk.1
          · show (ρ.ids ++ [a])[M.length]? = some a
            rw [← hr.len, List.getElem?_append_right (Nat.le_refl _)]
            simp
        · cases e
      · cases e
  · cases e
end
section
variable {K : PySem.W.Frag} {cl : List Addr} {H H' : Hp} {ρ ρ' : RS} {M M' : MS} {g : GW}
theorem relF_cut (hr : HR K H' ρ' M') {k : Nat} : ∀ {fs fs' : List (Str × D)} {us : List (Str × V)}, optAll (fs.map fun kv => (frz M' k 100 kv.2).map fun d => (kv.1, d)) = some fs' → RelF K H' ρ' fs us → RelF K H' (ρ'.cut k) fs' us
  | [], fs', us, e, r => by cases e; exact r
  | (q, x) :: fs, fs', us, e, r => by
    obtain ⟨v, w, rfl, h1, h2⟩ := r
    rw [List.map_cons] at e
    cases q1 : frz M' k 100 x with
    | none => rw [q1] at e; cases e
    | some y =>
      rw [q1] at e
      have e : (optAll (fs.map fun kv => (frz M' k 100 kv.2).map fun d => (kv.1, d))).map (fun xs => (q, y) :: xs) = some fs' := e
      obtain ⟨ys, e1, rfl⟩ := opt_map e
      exact ⟨v, w, rfl, frz_rel hr 100 x y v q1 h1, relF_cut hr e1 h2⟩
theorem endX_ok {α : Type} {x x' : Ex} {M'' : MS} {dd : Option Addr} {cv : Value} (e : (endX M M' x : Res α) = .exc x' M'') (hr : HR K H ρ M) (s : Step H ρ H' ρ') (hr' : HR K H' ρ' M') (xr : XR K cl H' ρ' x cv dd) : HR K H' ρ M'' ∧ XR K cl H' ρ x' cv dd := by
  unfold endX at e
  split at e
  · rename_i k
    split at e
    · rename_i fs hfs
      cases e
      refine ⟨hr.cut s hr' k, xr.1, ?_⟩
      rcases xr.2 with ⟨h1, h2⟩ | ⟨d, us, h1, h2, h3⟩
      · rw [h1] at hfs
        cases hfs
        exact .inl ⟨rfl, h2⟩
      · have := relF_cut hr' hfs h3
        rw [cut_eq hr s] at this
        exact .inr ⟨d, us, h1, h2, this⟩
    · cases e
  · cases e
theorem endX_nok {α : Type} {x : Ex} {d : α} {M'' : MS} : (endX M M' x : Res α) ≠ .ok d M'' := by
  intro e
  unfold endX at e
  split at e
  · split at e <;> cases e
  · cases e
theorem rt_nxB : RtNx retB := by
  intro M M' d x M'' e
  unfold retB at e
  split at e
  · split at e
    · cases e
    · split at e
      · split at e <;> cases e
      · cases e
  · cases e
/-- a body's end is the def's -/
theorem PostF.body {rt : MS → MS → D → Res D} (ok : RtOk K rt) (nx : RtNx rt) {Q : VK} {E : XK} (hr : HR K H ρ M) {r : SRes} (h : PostF K cl H ρ Q E (outF rt M r)) :
    PostS ⟨K, cl, fun c d _ H => E c d H⟩ H ρ { nx := fun _ H' => Q .non H', rt := Q } r := by
  have back : ∀ (d : D) (M' : MS), PostF K cl H ρ Q E (rt M M' d) → ∀ v H' ρ', Step H ρ H' ρ' → HR K H' ρ' M' → Rel K H' ρ' d v → Q v H' := fun d M' h v H' ρ' s hr' r => by
    cases e : rt M M' d with
    | ok d' M'' =>
      rw [e] at h
      obtain ⟨ρ'', s2, h2, r2⟩ := ok M M' d d' M'' H ρ H' ρ' v e hr s hr' r
      exact h v H' ρ'' s2 h2 r2
    | exc x M'' => exact absurd e (nx _ _ _ _ _)
    | fail => rw [e] at h; exact h.elim
  cases r with
  | ret d M' => exact back d M' h
  | nx η M' => exact fun σ' H' ρ' s hr' er => back .non M' h .non H' ρ' s hr' rfl
  | exc x η M' =>
    intro cv dd σ' H' ρ' s hr' er xr
    have h : PostF K cl H ρ Q E (endX M M' x) := h
    cases e : (endX M M' x : Res D) with
    | ok d' M'' => exact absurd e endX_nok
    | exc x' M'' =>
      rw [e] at h
      obtain ⟨h1, h2⟩ := endX_ok e hr s hr' xr
      exact h cv dd H' ρ s.back_to h1 h2
    | fail => rw [e] at h; exact h.elim
  | bk η M' => exact h.elim
  | ct η M' => exact h.elim
  | fail => exact h.elim
theorem start_er {N : List Str} {ds : List D} {vs : List V} (r : Rels K H ρ ds vs) : ER K H ρ (ds.map some ++ List.replicate (N.length - ds.length) none) (start N vs) := by
  have hl := r.length
  refine ⟨by simp [L2.start, hl], fun i d h => ?_⟩
  by_cases hi : i < ds.length
  · rw [List.getElem?_append_left (by simpa using hi), List.getElem?_map] at h
    cases q : ds[i]? with
    | none => rw [q] at h; cases h
    | some x =>
      rw [q] at h
      cases h
      obtain ⟨v, hv, rv⟩ := r.get q
      refine ⟨v, ?_, rv⟩
      unfold L2.start
      rw [List.getElem?_append_left (by simp; omega), List.getElem?_map, hv]
      rfl
  · rw [List.getElem?_append_right (by simpa using hi)] at h
    have := List.mem_of_getElem? h
    rw [List.mem_replicate] at this
    cases this.2
end
/-- the reading of a body for its def: what leaves it goes to E -/
abbrev gE (K : PySem.W.Frag) (cl : List Addr) (E : XK) : GW := ⟨K, cl, fun c d _ H => E c d H⟩
theorem fn_ok {P : Program} {w : World} {K : PySem.W.Frag} {cl : List Addr} {mg : Str → Option Value} {base : Heap} {x qual : Str} {params : Arguments} {body : List Stmt} {scope : Scope} {f : Addr} {fd : FuncData} {N ps : List Str} {dvs : List V} {kws : List (Str × V)} {k : Nat} {b : Sx} {rt : MS → MS → D → Res D}
    (F : FunD K x qual params body scope dvs kws f fd) (S : FnScope N ps scope) (np nl : Nat) (hn : ps.length = np) (hl : N.length = nl) (ok : RtOk K rt) (nx : RtNx rt)
    (hb : ∀ (cdv : Value) (A : Around) (outer : List Env) (s : Shared) (H : Hp) (E : XK), Room k (A.deeper (PyProof.Rows.envOfC qual scope s.heap.objs.size f cdv)) → PSs (cxOf (L2.CX P w) P w K mg base N qual scope f cdv A outer s H E) body (tS (gE K cl E) b)) :
    FnOk P w K mg base (L2.CX P w) (k + 1) f fd ps (spF K cl np (bodyF rt np nl b)) := by
  refine F.ok S (fun vs H Q E h => ?_) fun cdv A outer s H vs Q E hr h => ⟨_, hb cdv A outer s H E hr, ?_⟩
  · obtain ⟨ρ, M, ds, _, r, hlen, _⟩ := h
    rw [← r.length, hlen, hn]
  · obtain ⟨ρ, M, ds, h0, r, hlen, h⟩ := h
    refine ⟨ρ, M, _, h0, start_er r, ?_⟩
    unfold bodyF at h
    rw [if_pos hlen, ← hl] at h
    exact PostF.body ok nx h0 h

/-! ### a call of a def -/
def fCall (np : Nat) (F : List D → MS → Res D) (fa : Fx (List D)) : Fx D := fun η M => bindR (fa η M) fun ds M1 => if ds.length = np then F ds M1 else .fail
section
variable {X : Cx} {g : GW} {k : Nat} {f : Addr} {fd : FuncData} {ps : List Str} {x : Str} {p pos : Pos} {e : Expr} {es : List Expr} {fa : Fx (List D)} {F : List D → MS → Res D} {np : Nat}
theorem d_call (Fn : FnOk X.prog X.w X.K X.mg X.base (L2.CX X.prog X.w) k f fd ps (spF g.K g.cl np F)) (hr : Room k X.A) (hg : Gl X x) (hm : X.mg x = some (.ref f)) (hk : PySem.W.keepIn X.K (.ref f) = true) (hb : Binds X.K fd ps []) (tk : Takes X g.W)
    (ha : PA X (e :: es) (tA g fa)) (hdb : (x == ("__debug__" : Str)) = false) (he : starEach (e :: es) X.env = (false, eval e X.env) :: starEach es X.env) (hpl : (backTo pos (starEach es X.env)).any (·.1) = false) :
    PE X (.Call (.Name x p) (e :: es) [] pos) (tE g (fCall np F fa)) := by
  refine PE.imp (pe_callS (E := WE g.W) Fn hr hg hm hk hb (fun σ => passAt tk σ) ha hdb he hpl) fun σ H Q h => ?_
  obtain ⟨ρ, M, η, h0, er, h⟩ := h
  refine ⟨ρ, M, η, h0, er, h.bind.mono fun ds M1 H1 ρ1 s1 hr1 h1 vs rv => ?_⟩
  split at h1
  · rename_i hl
    refine ⟨ρ1, M1, ds, hr1, rv, hl, ?_⟩
    cases hh : F ds M1 with
    | ok d M' => rw [hh] at h1; exact fun v H' ρ' s q r => h1 H' ρ' s q v r
    | exc x M' => rw [hh] at h1; exact fun cls dd H' ρ' s q r => h1 cls dd H' ρ' s q r
    | fail => rw [hh] at h1; exact h1
  · exact h1.elim
end
end NV
end
section
set_option Elab.async false
set_option linter.all false
set_option maxRecDepth 100000
set_option maxHeartbeats 4000000
set_option autoImplicit false
namespace NV
open PySem PySem.Spec L2

/-! ### o[i] = v -/
def setA (o i d : D) (M : MS) : Option MS := match o with
  | .ref n => match M[n]? with
    | some (.lst xs) => match i with
      | .int k => (ixN xs.length k).map fun j => M.set n (.lst (xs.set j d))
      | _ => none
    | some (.dcK kvs) => if kvs.length < sizeLine then (keyD i).map fun k => M.set n (.dcK (putD kvs k d)) else none
    | some (.dcT kvs) => if kvs.length < sizeLine then (match i with
      | .tup ks => (keysD ks).map fun k => M.set n (.dcT (putD kvs k d))
      | _ => none) else none
    | _ => none
  | _ => none
def rSetM : TSet := fun o i v H Q => rSetL o i v H Q ∨ rSetD o i v H Q
def OpS (K : PySem.W.Frag) (φ : D → D → D → MS → Option MS) (r : TSet) : Prop := ∀ o i z M M' H ρ u v w (Q : Hp → Prop), φ o i z M = some M' → HR K H ρ M → Rel K H ρ o u → Rel K H ρ i v → Rel K H ρ z w →
  (∀ H', Step H ρ H' ρ → HR K H' ρ M' → Q H') → r u v w H Q
section
variable {X : Cx} {K : PySem.W.Frag} {H : Hp} {ρ : RS} {M : MS}
theorem set_M (hu : X.A.units + 1 < cLine) : PSet X rSetM := by
  intro pins s σ H o i v ov iv u Q I ro ri rv h
  rcases h with h | h
  · exact set_list pins s σ H o i v ov iv u Q I ro ri rv h
  · exact set_dict hu pins s σ H o i v ov iv u Q I ro ri rv h
theorem keyD_sok {d : D} {k : Key} {v : V} (e : keyD d = some k) (r : Rel K H ρ d v) : ∀ s, k = .inr s → SOk s := by
  intro s es
  subst es
  cases d with
  | int i => cases e
  | str s => cases e; exact r.2
  | _ => cases e
theorem keysD_sok : ∀ {xs : List D} {ks : List Key} {vs : List V}, keysD xs = some ks → Rels K H ρ xs vs → ∀ s, (Sum.inr s : Key) ∈ ks → SOk s
  | [], ks, vs, e, r, s, hs => by
    have e : some [] = some ks := e
    cases e
    cases hs
  | x :: xs, ks, vs, e, r, s, hs => by
    have e : ((keyD x).bind fun k => (keysD xs).map fun ks => k :: ks) = some ks := e
    obtain ⟨v, w, rfl, h1, h2⟩ := r
    cases q : keyD x with
    | none => rw [q] at e; cases e
    | some k =>
      rw [q] at e
      obtain ⟨ks', e1, rfl⟩ := opt_map (show (keysD xs).map (fun ks => k :: ks) = some ks from e)
      rcases List.mem_cons.mp hs with hs | hs
      · exact keyD_sok q h1 s hs.symm
      · exact keysD_sok e1 h2 s hs
theorem o_set : OpS K setA rSetM := by
  intro o i z M M' H ρ u v w Q e hr ro ri rz q
  unfold setA at e
  split at e
  · rename_i n
    have ro' := ro
    obtain ⟨a, rfl, qa⟩ := ro'
    have ha : a ∈ ρ.ids := List.mem_of_getElem? qa
    split at e
    · rename_i xs hx
      split at e
      · rename_i k
        obtain ⟨j, hj, rfl⟩ := opt_map e
        obtain ⟨vs, h1, h2⟩ := hr.at_ n _ hx a qa
        have hv : v = .int k := ri
        subst hv
        refine .inl ⟨a, vs, k, j, rfl, rfl, h1, by rw [← h2.length]; exact hj, ?_⟩
        have ew := Ext.write (H := H) (ρ := ρ) (a := a) (u := HO.lst (vs.set j w)) (List.mem_append_left _ ha)
        exact q _ (Step.write hr ha) (hr.write qa ⟨_, upd_same, (h2.set rz j).mono ew hr _ _⟩)
      · cases e
    · rename_i kvs hx
      split at e
      · rename_i hl
        obtain ⟨k, hk, rfl⟩ := opt_map e
        obtain ⟨us, h1, h2⟩ := hr.at_ n _ hx a qa
        have hv := keyD_rel hk ri
        subst hv
        have ew := Ext.write (H := H) (ρ := ρ) (a := a) (u := HO.dK (putK us k w)) (List.mem_append_left _ ha)
        refine .inr ⟨a, _, rfl, DPut.k h1 (by rw [← h2.length]; exact hl), ?_⟩
        exact q _ (Step.write hr ha) (hr.write qa ⟨_, upd_same, (h2.put (keyD_sok hk ri) rz).mono ew hr _ _⟩)
      · cases e
    · rename_i kvs hx
      split at e
      · rename_i hl
        split at e
        · rename_i ks
          obtain ⟨k, hk, rfl⟩ := opt_map e
          obtain ⟨us, h1, h2⟩ := hr.at_ n _ hx a qa
          obtain ⟨b, vs, rfl, hb, rs⟩ := ri
          have hv := keysD_rel hk rs
          subst hv
          have ew := Ext.write (H := H) (ρ := ρ) (a := a) (u := HO.dT (putK us k w)) (List.mem_append_left _ ha)
          have len : us.length < sizeLine := by
            have : ∀ {kvs : List (List Key × D)} {us : List (List Key × V)}, RelT K H ρ kvs us → kvs.length = us.length := by
              intro kvs
              induction kvs with
              | nil => intro us h; rw [show us = [] from h]; rfl
              | cons kv kvs ih =>
                intro us h
                obtain ⟨x, y⟩ := kv
                obtain ⟨_, _, rfl, _, _, h⟩ := h
                simp [ih h]
            rw [← this h2]; exact hl
          refine .inr ⟨a, _, rfl, DPut.t h1 hb len, ?_⟩
          exact q _ (Step.write hr ha) (hr.write qa ⟨_, upd_same, (h2.put (keysD_sok hk rs) rz).mono ew hr _ _⟩)
        · cases e
      · cases e
    · cases e
  · cases e
end
def isRef : D → Bool
  | .ref _ => true
  | _ => false
theorem isRef_at {o : D} (h : isRef o = true) : ∃ n, o = .ref n := by
  cases o with
  | ref n => exact ⟨n, rfl⟩
  | _ => cases h
def xSub (fo fi : Fx D) : Gx := fun d η M => bindS (fo η M) η fun o M1 => bindS (fi η M1) η fun i M2 => match setA o i d M2 with
  | some M3 => .nx η M3
  | none => .fail
def sAugS (fo fi : Fx D) (φ : D → D → MS → Option D) (fe : Fx D) : Sx := fun η M => bindS (fo η M) η fun o M1 => bindS (fi η M1) η fun i M2 => if isRef o = true then (match aIx o i M2 with
  | some x => bindS (fe η M2) η fun y M3 => (match φ x y M3 with
    | some z => (match setA o i z M3 with
      | some M4 => .nx η M4
      | none => .fail)
    | none => .fail)
  | none => .fail) else .fail
def rGetM (K : PySem.W.Frag) : V → V → Hp → VK → Prop := fun x y H Q => rIxL K x y H Q ∨ ∃ a v, x = .ref a ∧ DGet H a y (some v) ∧ Q v H
section
variable {X : Cx} {g : GW} {a b : Expr} {fo fi fe : Fx D} {pos : Pos}
theorem dg_sub (hu : X.A.units + 1 < cLine) (ho : PE X a (tE g fo)) (hi : PE X b (tE g fi)) (ha : ∀ v, assign (.Subscript a b pos) X.env v = (do
      let ov ← holding [v] (eval a X.env)
      let iv ← holding [v, ov] (eval b X.env)
      standAt pos
      holding [v, ov, iv] (setItem ov iv v)
      release [v, ov, iv] [])) : PG X (.Subscript a b pos) (tG g [] (xSub fo fi)) := by
  refine PG.imp (pg_sub ho hi (set_M hu) ha) fun v σ H Q ⟨ρ, M, η, d, hr, er, r, q⟩ => ?_
  refine ⟨ρ, M, η, hr, er, (PostG.bind er hr q).mono fun o M1 H1 ρ1 s1 hr1 h1 vo ro => ?_⟩
  have er1 := er.mono s1.toExt hr
  refine ⟨ρ1, M1, η, hr1, er1, (PostG.bind er1 hr1 h1).mono fun i M2 H2 ρ2 s2 hr2 h2 vi ri => ?_⟩
  have er2 := er1.mono s2.toExt hr1
  split at h2
  · rename_i M3 e3
    exact o_set o i d M2 M3 H2 ρ2 vo vi v _ e3 hr2 (ro.mono s2.toExt hr1 _ _) ri ((r.mono s1.toExt hr _ _).mono s2.toExt hr1 _ _) fun H' s3 hr3 => h2 σ H' ρ2 s3 hr3 (er2.mono s3.toExt hr2) (SB.refl _ _)
  · exact h2.elim
theorem get_M (hu : X.A.units + 1 < cLine) : PGet X (rGetM X.K) := by
  intro pins s σ H x y v u Q I rx ry h
  rcases h with ⟨p, xs, i, z, rfl, rfl, hq, he, q⟩ | ⟨a, z, rfl, g, q⟩
  · cases rx
    obtain ⟨t, rfl⟩ := ry
    obtain ⟨its, r, pl, hz⟩ := I.list hq
    obtain ⟨j, h1, h2, h3, h4, h5⟩ := atI_get he
    obtain ⟨w, ew, rw'⟩ := r.get h2
    have hl := r.length
    have hn := line63
    have done : EP X pins σ Q w s := ⟨z, H, I, rw', q⟩
    by_cases h0 : 0 ≤ i
    · have hj : i.toNat = j := by
        rw [seqIndex_of h0 h5] at h1
        exact Option.some.inj h1
      exact wpAny_getItem_list pl.isList h0 (by omega) (by rw [hj]; simpa using ew) done
    · have hj : (i + (its.toArray.size : Int)).toNat = j := by
        rw [seqIndex_neg (by omega) h4] at h1
        rw [List.size_toArray, ← hl]
        exact Option.some.inj h1
      exact wpAny_getItem_list_neg pl.isList (by omega) (by rw [List.size_toArray]; omega) (by omega) (by rw [hj]; simpa using ew) done
  · cases rx
    exact d_getItem hu I g ry fun w' s3 I3 rw' => ⟨z, H, I3, rw', q⟩
theorem o_getM {K : PySem.W.Frag} {x y z : D} {M : MS} {H : Hp} {ρ : RS} {u v : V} {Q : VK} (n : Nat) (hx : x = .ref n) (e : aIx x y M = some z) (hr : HR K H ρ M) (rx : Rel K H ρ x u) (ry : Rel K H ρ y v) (q : ∀ w, Rel K H ρ z w → Q w H) : rGetM K u v H Q := by
  subst hx
  have dict : (getD M (.ref n) y).join = some z → rGetM K u v H Q := fun e => by
    cases g : getD M (.ref n) y with
    | none => rw [g] at e; cases e
    | some o =>
      rw [g] at e
      have e : o = some z := e
      subst e
      obtain ⟨a, r, rfl, h1, h2⟩ := getD_rel hr g rx ry
      cases r with
      | none => exact h2.elim
      | some w => exact .inr ⟨a, w, rfl, h1, q w h2⟩
  unfold aIx at e
  split at e
  · rename_i k
    have hv : v = .int k := ry
    subst hv
    split at e
    · rename_i xs hx
      obtain ⟨a, vs, rfl, hs, r⟩ := ls_rel hr hx rx
      obtain ⟨w, h1, h2⟩ := atI_rel r e
      exact .inl ⟨a, vs, k, w, rfl, rfl, hs, h1, q w h2⟩
    · exact dict e
  · exact dict e
end
section
variable {X : Cx} {g : GW} {a b e : Expr} {fo fi fe : Fx D} {pos tpos : Pos} {op : Operator} {φ : D → D → MS → Option D} {r : TIp}
theorem ds_augS (hk : g.K = X.K) (hu : X.A.units + 1 < cLine) (ho : PE X a (tE g fo)) (hi : PE X b (tE g fi)) (he : PE X e (tE g fe)) (hp : PIp X op r) (hop : Op2 g.K φ r)
    (ha : ∀ ov iv new, augStore b ov iv new = (do holding [new, ov, iv] (setItem ov iv new); release [new, ov, iv] []; pure .next)) : PS X (.AugAssign (.Subscript a b tpos) op e pos) (tS g (sAugS fo fi φ fe)) := by
  refine PS.imp (ps_augS ho hi (get_M hu) he hp (set_M hu) ha) fun E σ H ⟨ρ, M, η, hr, er, h⟩ => ?_
  rw [← hk]
  refine ⟨ρ, M, η, hr, er, (PostS.bind er hr h).mono fun o M1 H1 ρ1 s1 hr1 h1 vo ro => ?_⟩
  have er1 := er.mono s1.toExt hr
  refine ⟨ρ1, M1, η, hr1, er1, (PostS.bind er1 hr1 h1).mono fun i M2 H2 ρ2 s2 hr2 h2 vi ri => ?_⟩
  have er2 := er1.mono s2.toExt hr1
  have ro2 := ro.mono s2.toExt hr1 _ _
  split at h2
  · rename_i hn
    obtain ⟨n, hn⟩ := isRef_at hn
    split at h2
    · rename_i x ex
      refine o_getM n hn ex hr2 ro2 ri fun w rw' => ?_
      refine ⟨ρ2, M2, η, hr2, er2, (PostS.bind er2 hr2 h2).mono fun y M3 H3 ρ3 s3 hr3 h3 vy ry => ?_⟩
      have er3 := er2.mono s3.toExt hr2
      split at h3
      · rename_i z ez
        split at h3
        · rename_i M4 e4
          refine hop x y z M3 H3 ρ3 w vy _ ez hr3 (rw'.mono s3.toExt hr2 _ _) ry fun H' vz k rz => ?_
          have s' : Step H3 ρ3 H' ρ3 := Step.ext hr3 k
          have hr' := hr3.ext k
          exact o_set o i z M3 M4 H' ρ3 vo vi vz _ e4 hr' ((ro2.mono s3.toExt hr2 _ _).mono s'.toExt hr3 _ _) ((ri.mono s3.toExt hr2 _ _).mono s'.toExt hr3 _ _) rz fun H4 s4 hr4 =>
            h3 σ H4 ρ3 (s'.trans s4 hr') hr4 ((er3.mono s'.toExt hr3).mono s4.toExt hr')
        · exact h3.elim
      · exact h3.elim
    · exact h2.elim
  · exact h2.elim
end

/-! ### methods that write -/
def OpW (K : PySem.W.Frag) (φ : D → List D → MS → Option (D × MS)) (r : V → List V → Hp → VK → Prop) : Prop := ∀ x xs z M M' H ρ u us (Q : VK), φ x xs M = some (z, M') → HR K H ρ M → Rel K H ρ x u → Rels K H ρ xs us →
  (∀ H' w, Step H ρ H' ρ → HR K H' ρ M' → Rel K H' ρ z w → Q w H') → r u us H Q
/-- of that builtin type -/
def tyW (M : MS) : D → Option String
  | .str _ => some "str"
  | .lst _ => some "list"
  | .frl _ => some "list"
  | .ref n => match M[n]? with
    | some (.lst _) => some "list"
    | some (.dcK _) => some "dict"
    | some (.dcT _) => some "dict"
    | _ => none
  | _ => none
def fM (T : String) (φ : D → List D → MS → Option (D × MS)) (fo : Fx D) (fa : Fx (List D)) : Fx D := fun η M => bindR (fo η M) fun x M1 => if tyW M1 x = some T then bindR (fa η M1) fun xs M2 => (match φ x xs M2 with
  | some (z, M3) => .ok z M3
  | none => .fail) else .fail
section
variable {X : Cx} {K : PySem.W.Frag} {H : Hp} {ρ : RS} {M : MS} {g : GW}
theorem tyW_rel {x : D} {T : String} {v : V} (hr : HR K H ρ M) (e : tyW M x = some T) (r : Rel K H ρ x v) : tyV K T v H := by
  cases x with
  | str s => cases e; rw [show v = _ from r.1]; exact rfl
  | lst xs => cases e; obtain ⟨a, vs, rfl, h, _⟩ := r; exact .inl ⟨rfl, vs, h.sqL⟩
  | frl xs => cases e; obtain ⟨a, vs, rfl, h, _⟩ := r; exact .inl ⟨rfl, vs, h.sqL⟩
  | ref n =>
    have e : (match M[n]? with
    | some (.lst _) => some "list"
    | some (.dcK _) => some "dict"
    | some (.dcT _) => some "dict"
    | _ => none) = some T := e
    split at e
    · rename_i ys q
      cases e
      obtain ⟨a, rfl, _, vs, h, _⟩ := ref_at hr q r
      exact .inl ⟨rfl, vs, SqL.of h⟩
    · rename_i ys q
      cases e
      obtain ⟨a, rfl, _, vs, h, _⟩ := ref_at hr q r
      exact .inr (.inr (.inl ⟨rfl, .inl ⟨vs, h⟩⟩))
    · rename_i ys q
      cases e
      obtain ⟨a, rfl, _, vs, h, _⟩ := ref_at hr q r
      exact .inr (.inr (.inl ⟨rfl, .inr ⟨vs, h⟩⟩))
    · cases e
  | _ => cases e
theorem t_bm {T : String} {r : V → List V → Hp → VK → Prop} {φ : D → List D → MS → Option (D × MS)} {fo : Fx D} {fa : Fx (List D)} {σ : L2.St} {Q : VK} (hop : OpW g.K φ r) (h : tE g (fM T φ fo fa) σ H Q) : tBM g.K T r (tE g fo) (tA g fa) σ H Q := by
  obtain ⟨ρ, M, η, hr, er, h⟩ := h
  refine ⟨ρ, M, η, hr, er, h.bind.mono fun x M1 H1 ρ1 s1 hr1 h1 u ru => ?_⟩
  split at h1
  · rename_i ht
    refine ⟨tyW_rel hr1 ht ru, ρ1, M1, η, hr1, er.mono s1.toExt hr, h1.bind.mono fun xs M2 H2 ρ2 s2 hr2 h2 us rs => ?_⟩
    split at h2
    · rename_i z M3 e3
      exact hop x xs z M2 M3 H2 ρ2 u us Q e3 hr2 (ru.mono s2.toExt hr1 _ _) rs fun H' w s3 hr3 rw' => h2 H' ρ2 s3 hr3 w rw'
    · exact h2.elim
  · exact h1.elim
theorem t_bm0 {T : String} {r : V → List V → Hp → VK → Prop} {φ : D → List D → MS → Option (D × MS)} {fo : Fx D} {σ : L2.St} {Q : VK} (hop : OpW g.K φ r) (h : tE g (fM T φ fo aNil) σ H Q) : tBM0 g.K T r (tE g fo) σ H Q := by
  obtain ⟨ρ, M, η, hr, er, h⟩ := h
  refine ⟨ρ, M, η, hr, er, h.bind.mono fun x M1 H1 ρ1 s1 hr1 h1 u ru => ?_⟩
  split at h1
  · rename_i ht
    refine ⟨tyW_rel hr1 ht ru, ?_⟩
    have h1 : Post g σ H1 ρ1 (fun d M' H' ρ' => ∀ v, Rel g.K H' ρ' d v → Q v H') (match φ x [] M1 with
      | some (z, M3) => .ok z M3
      | none => .fail) := h1
    split at h1
    · rename_i z M3 e3
      exact hop x [] z M1 M3 H1 ρ1 u [] Q e3 hr1 ru rfl fun H' w s3 hr3 rw' => h1 H' ρ1 s3 hr3 w rw'
    · exact h1.elim
  · exact h1.elim
end
/-- the boxed list that x is -/
def bxL (M : MS) : D → Option (Nat × List D)
  | .ref n => match M[n]? with
    | some (.lst xs) => some (n, xs)
    | _ => none
  | _ => none
def mAppend (x : D) (xs : List D) (M : MS) : Option (D × MS) := match bxL M x, xs with
  | some (n, ys), [y] => if ys.length < sizeLine then some (.non, M.set n (.lst (ys ++ [y]))) else none
  | _, _ => none
def mExtend (x : D) (xs : List D) (M : MS) : Option (D × MS) := match bxL M x, xs with
  | some (n, ys), [y] => match lxOf M y with
    | some zs => if ys.length + zs.length ≤ sizeLine then some (.non, M.set n (.lst (ys ++ zs))) else none
    | none => none
  | _, _ => none
def mPop (x : D) (xs : List D) (M : MS) : Option (D × MS) := match bxL M x, xs with
  | some (n, ys), [] => match ys[ys.length - 1]? with
    | some y => some (y, M.set n (.lst ys.dropLast))
    | none => none
  | some (n, ys), [.int i] => if -(2 ^ 63) ≤ i ∧ i < 2 ^ 63 then (match seqIndex? i ys.length with
    | some k => (match ys[k]? with
      | some y => some (y, M.set n (.lst (ys.eraseIdx k)))
      | none => none)
    | none => none) else none
  | _, _ => none
section
variable {X : Cx} {K : PySem.W.Frag} {H : Hp} {ρ : RS} {M : MS} {g : GW}
theorem bxL_rel {x : D} {v : V} {n : Nat} {xs : List D} (hr : HR K H ρ M) (e : bxL M x = some (n, xs)) (r : Rel K H ρ x v) : ∃ a vs, v = .ref a ∧ ρ.ids[n]? = some a ∧ a ∈ ρ.ids ∧ H a = some (.lst vs) ∧ Rels K H ρ xs vs := by
  cases x with
  | ref m =>
    have e : (match M[m]? with | some (.lst xs) => some (m, xs) | _ => none) = some (n, xs) := e
    split at e
    · rename_i ys q
      cases e
      obtain ⟨a, rfl, qa, vs, h1, h2⟩ := ref_at hr q r
      exact ⟨a, vs, rfl, qa, List.mem_of_getElem? qa, h1, h2⟩
    · cases e
  | _ => cases e
theorem HR.putL {a : Addr} {n : Nat} {xs : List D} {vs : List V} (hr : HR K H ρ M) (qa : ρ.ids[n]? = some a) (r : Rels K H ρ xs vs) : Step H ρ (upd H a (.lst vs)) ρ ∧ HR K (upd H a (.lst vs)) ρ (M.set n (.lst xs)) := by
  have ha := List.mem_of_getElem? qa
  exact ⟨Step.write hr ha, hr.write qa ⟨vs, upd_same, r.mono (Ext.write (List.mem_append_left _ ha)) hr _ _⟩⟩
theorem Rels.dropLast : ∀ {xs : List D} {vs : List V}, Rels K H ρ xs vs → Rels K H ρ xs.dropLast vs.dropLast
  | xs, vs, r => by
    rw [List.dropLast_eq_take, List.dropLast_eq_take, ← r.length]
    exact r.take _
theorem Rels.erase : ∀ {xs : List D} {vs : List V} (k : Nat), Rels K H ρ xs vs → Rels K H ρ (xs.eraseIdx k) (vs.eraseIdx k)
  | xs, vs, k, r => by
    rw [List.eraseIdx_eq_take_drop_succ, List.eraseIdx_eq_take_drop_succ]
    exact (r.take k).append (r.drop (k + 1))
theorem o_append : OpW K mAppend rAppend := by
  intro x xs z M M' H ρ u us Q e hr rx rs q
  unfold mAppend at e
  split at e
  · rename_i n ys y hb
    split at e
    · rename_i hl
      cases e
      obtain ⟨a, vs, rfl, qa, ha, h1, h2⟩ := bxL_rel hr hb rx
      obtain ⟨w, rfl, rw'⟩ := rels1 rs
      obtain ⟨s, hr'⟩ := hr.putL qa (h2.append (Rels.one rw'))
      exact ⟨a, vs, w, rfl, rfl, h1, by rw [← h2.length]; exact hl, q _ _ s hr' rfl⟩
    · cases e
  · cases e
theorem o_extend : OpW K mExtend rExtend := by
  intro x xs z M M' H ρ u us Q e hr rx rs q
  unfold mExtend at e
  split at e
  · rename_i n ys y hb
    split at e
    · rename_i zs hz
      split at e
      · rename_i hl
        cases e
        obtain ⟨a, vs, rfl, qa, ha, h1, h2⟩ := bxL_rel hr hb rx
        obtain ⟨w, rfl, rw'⟩ := rels1 rs
        obtain ⟨b, ws, rfl, h3, h4⟩ := lx_rel hr hz rw'
        obtain ⟨s, hr'⟩ := hr.putL qa (h2.append h4)
        exact ⟨a, b, vs, ws, rfl, rfl, h1, h3, by rw [← h2.length, ← h4.length]; exact hl, q _ _ s hr' rfl⟩
      · cases e
    · cases e
  · cases e
def rPopM : V → List V → Hp → VK → Prop := fun x vs H Q => rPop x vs H Q ∨ rPopAt x vs H Q
theorem mt_popM : MtR X "list.pop" rPopM := MtR.or mt_pop mt_popAt
theorem o_pop : OpW K mPop rPopM := by
  intro x xs z M M' H ρ u us Q e hr rx rs q
  unfold mPop at e
  split at e
  · rename_i n ys hb
    split at e
    · rename_i y hy
      cases e
      obtain ⟨a, vs, rfl, qa, ha, h1, h2⟩ := bxL_rel hr hb rx
      obtain rfl : us = [] := rs
      obtain ⟨w, hw, rw'⟩ := h2.get hy
      obtain ⟨s, hr'⟩ := hr.putL qa h2.dropLast
      exact .inl ⟨a, vs, w, rfl, rfl, h1, by rw [← h2.length]; exact hw, q _ _ s hr' (rw'.mono s.toExt hr _ _)⟩
    · cases e
  · rename_i n ys i hb
    split at e
    · rename_i hi
      split at e
      · rename_i k hk
        split at e
        · rename_i y hy
          cases e
          obtain ⟨a, vs, rfl, qa, ha, h1, h2⟩ := bxL_rel hr hb rx
          obtain ⟨wi, rfl, ri⟩ := rels1 rs
          obtain rfl : wi = .int i := ri
          obtain ⟨w, hw, rw'⟩ := h2.get hy
          obtain ⟨s, hr'⟩ := hr.putL qa (h2.erase k)
          exact .inr ⟨a, vs, i, k, w, rfl, rfl, h1, hi.1, hi.2, by rw [← h2.length]; exact hk, hw, q _ _ s hr' (rw'.mono s.toExt hr _ _)⟩
        · cases e
      · cases e
    · cases e
  · cases e
end
end NV
end
section
set_option Elab.async false
set_option linter.all false
set_option maxRecDepth 100000
set_option maxHeartbeats 4000000
set_option autoImplicit false
namespace NV
open PySem PySem.Spec L2

/-! ### sorted -/
section
variable {prog : Program} {w : World} {A : Around} {E : Value → Shared → Prop} {s : Shared} {β : Type} {vs : List Value} {bs : List β} {enc : β → PyData} {R : Value → β → Prop}
open PyProof.Rows in
/-- sorted(t), t a tuple: its items go to a new list, which is sorted -/
theorem sorted_tup {l : Addr} {o : Obj} {n : Nat} {Q : Value → Shared → Prop} (ho : s.heap.get? l = some o) (hc : o.cls = .type "tuple") (hd : o.data = .seq vs.toArray n) (e : PySem.W.EachIs R vs bs) (er : PySem.W.EachIs (fun v b => ∃ as, Reads s.heap v (enc b) as) vs bs)
    (hal : PySem.W.AllAlike (bs.map enc)) (hk : PySem.W.Sortable (bs.map enc)) (hL : bs.length ≤ sizeLine) (hu : ∀ b, b ∈ bs → A.units + 2 + (enc b).depth < cLine)
    (h : ∀ (out : List Value) (h1 h' : Heap), out.length = bs.length → PySem.W.EachIs R out (bs.mergeSort (PySem.W.dataLe false enc)) → (∀ b o, s.heap.get? b = some o → h1.get? b = some o) → (∀ b o, h1.get? b = some o → h'.get? b = some o) → (∃ ep, h'.get? h1.objs.size = some (seqObj "list" (List.toArray out) ep)) → Q (.ref h1.objs.size) { s with heap := h' }) :
    wpAny (model prog w) A (call (.builtin "sorted") [.ref l]) Q E s := by
  have hL' : vs.length ≤ sizeLine := by rw [e.length]; exact hL
  refine PyProof.Rows.call_function_entry_kw kind_sorted plain_sorted entry_sorted (args_sorted1 _) ?_
  unfold Builtin.«sorted»
  refine wpAny_bind (m := checkCount "sorted" 1 1 _) (wpAny_pure (wpAny_bind (wpAny_collect_seq l (.inr rfl) ho hc hd (fun h1 k1 => ?_) (by rw [List.size_toArray]; exact hL'))))
  refine wpAny_bind (wpAny_newList ?_ hL')
  have ho2 : (h1.push (seqObj "list" vs.toArray 0)).get? h1.objs.size = some (seqObj "list" vs.toArray 0) := Heap.get?_push_size _ rfl
  have k2 : ∀ b o, h1.get? b = some o → (h1.push (seqObj "list" vs.toArray 0)).get? b = some o := fun b o q => Heap.get?_push_of_some _ q
  have ne : ∀ b o, h1.get? b = some o → b ≠ h1.objs.size := fun b o q => Nat.ne_of_lt (Heap.lt_size q)
  have k3 : ∀ b o, s.heap.get? b = some o → (PySem.W.sortingHeap (h1.push (seqObj "list" vs.toArray 0)) h1.objs.size vs).get? b = some o := fun b o q => PySem.W.sortingHeap_old (ne b o (k1 b o q)) (k2 b o (k1 b o q))
  have er' : PySem.W.EachIs (fun v b => ∃ as, Reads (PySem.W.sortingHeap (h1.push (seqObj "list" vs.toArray 0)) h1.objs.size vs) v (enc b) as) vs bs := er.mono fun _ _ ⟨as, r⟩ => ⟨as, Reads.keeps k3 r⟩
  refine wpAny_bind (wpAny_holding (wpAny_call_entry slot_list_sort ⟨_, ho2, rfl⟩ entry_list_sort (PySem.W.list_sort_vals (κ := PySem.W.dataKind (PySem.W.sortingHeap (h1.push (seqObj "list" vs.toArray 0)) h1.objs.size vs) (bs.map enc)) ho2
    (PySem.W.SortsAt.data (s := { s with heap := PySem.W.sortingHeap (h1.push (seqObj "list" vs.toArray 0)) h1.objs.size vs }) (PySem.W.each_map (R := fun v d => ∃ as, Reads (PySem.W.sortingHeap (h1.push (seqObj "list" vs.toArray 0)) h1.objs.size vs) v d as) enc er') hal hk (PySem.W.bound_map hu)) hL' ⟨.none, rfl, ?_⟩) (args_list_sort _)))
  obtain ⟨ep, hep⟩ := sortedHeap_at (vs := vs) (out := (PySem.W.sortVals (PySem.W.dataKind (PySem.W.sortingHeap (h1.push (seqObj "list" vs.toArray 0)) h1.objs.size vs) (bs.map enc)) false vs vs).toArray) ho2
  refine wpAny_pure ⟨_, rfl, ?_⟩
  refine h _ h1 _ (by rw [PySem.W.sortVals_length false rfl]; exact e.length) (PySem.W.sortVals_data false e er' hal) k1 (fun b o q => ?_) ⟨ep, hep⟩
  rw [sortedHeap_old (ne b o q) (Heap.lt_size (k2 b o q))]
  exact k2 b o q
end
open Classical in
noncomputable def bSorted (xs : List D) (M : MS) : Option (List D) := match xs with
  | [x] => match seqOf M x with
    | some ys => if plains ys = true ∧ PySem.W.AllAlike (ps ys) ∧ PySem.W.Sortable (ps ys) ∧ (∀ d ∈ ps ys, d.depth ≤ 60) then some (ys.mergeSort (PySem.W.dataLe false D.p)) else none
    | none => none
  | _ => none
def rSortM (K : PySem.W.Frag) : List V → Hp → VK → Prop := fun vs H Q => ∃ (a : Addr) (bs : List (D × V)), vs = [.ref a] ∧ (SqL K H a (bs.map (·.2)) ∨ SqT K H a (bs.map (·.2))) ∧ (∀ b ∈ bs, Dp K H b.2 b.1.p) ∧ PySem.W.AllAlike (bs.map fun b => b.1.p) ∧ PySem.W.Sortable (bs.map fun b => b.1.p) ∧
  (∀ b ∈ bs, b.1.p.depth ≤ 60) ∧ ∀ p, H p = none → Q (.ref p) (upd H p (.lst ((bs.mergeSort (PySem.W.dataLe false fun b => b.1.p)).map (·.2))))
section
variable {X : Cx} {K : PySem.W.Frag} {H : Hp} {ρ : RS} {M : MS}
theorem each_of : ∀ {bs : List (D × V)} {us : List Value}, Vals (bs.map (·.2)) us → PySem.W.EachIs (fun v b => RelV b.2 v) us bs
  | [], _, r => by cases r; exact .nil
  | b :: bs, _, r => by
    have r : Vals (b.2 :: bs.map (·.2)) _ := r
    cases r with
    | cons h t => exact .cons h (each_of t)
theorem of_each : ∀ {bs : List (D × V)} {us : List Value}, PySem.W.EachIs (fun v (b : D × V) => RelV b.2 v) us bs → Vals (bs.map (·.2)) us
  | _, _, .nil => .nil
  | _, _, .cons h t => .cons h (of_each t)
theorem each_reads {pins : List (Addr × Obj)} {σ : L2.St} {s : Shared} (I : Inv X pins σ H s) : ∀ {bs : List (D × V)} {us : List Value}, (∀ b ∈ bs, Dp X.K H b.2 b.1.p) → Vals (bs.map (·.2)) us → PySem.W.EachIs (fun v b => ∃ as, Reads s.heap v (b.1.p) as) us bs
  | [], _, _, r => by cases r; exact .nil
  | b :: bs, _, h, r => by
    have r : Vals (b.2 :: bs.map (·.2)) _ := r
    cases r with
    | cons h1 t => exact .cons (Dp.reads I _ _ _ (h b List.mem_cons_self) h1) (each_reads I (fun b hb => h b (List.mem_cons_of_mem _ hb)) t)
theorem call_sortM (hu : X.A.units + 64 < cLine) : CallR X (.builtin "sorted") (rSortM X.K) := by
  intro pins s σ H vs us Q I r h
  obtain ⟨a, bs, rfl, hs, hd, hal, hk, hdp, q⟩ := h
  rw [Vals.ref1 r]
  have room : ∀ b ∈ bs, X.A.units + 2 + (b.1.p).depth < cLine := fun b hb => by have := hdp b hb; omega
  rcases hs with hs | hs
  · obtain ⟨its, rv, hl, hz⟩ := I.list hs
    have hz' : bs.length ≤ sizeLine := by simpa using hz
    refine PySem.W.sorted_data (enc := fun b : D × V => b.1.p) hl.isList (each_of rv) (each_reads I hd rv) hal hk hz' room fun out ho eo => ?_
    obtain ⟨ep, he'⟩ := PyProof.Rows.sortedAll_at s.heap its out.toArray
    have hv := of_each eo
    exact ⟨.ref _, _, I.laid (t' := s.toks) (o := .lst ((bs.mergeSort (PySem.W.dataLe false fun b => b.1.p)).map (·.2))) (fun _ _ => PyProof.Rows.sortedAll_old) (Nat.le_succ _) ⟨by simpa using hz', out, ep, hv, he'⟩, rfl, q _ (I.hok.fresh (Nat.le_succ _))⟩
  · obtain ⟨its, rv, ht, hz⟩ := I.tuple hs
    have hz' : bs.length ≤ sizeLine := by simpa using hz
    obtain ⟨o, h1, h2, n, h3⟩ := ht
    refine sorted_tup (enc := fun b : D × V => b.1.p) h1 h2 h3 (each_of rv) (each_reads I hd rv) hal hk hz' room fun out hh h' ho eo k1 k2 hep => ?_
    have hv := of_each eo
    obtain ⟨ep, hep⟩ := hep
    have I1 : Inv X pins σ H { s with heap := hh } := I.kept (t' := s.toks) k1
    exact ⟨.ref _, _, I1.laid (t' := s.toks) (o := .lst ((bs.mergeSort (PySem.W.dataLe false fun b => b.1.p)).map (·.2))) k2 (Nat.le_refl _) ⟨by simpa using hz', out, ep, hv, hep⟩, rfl, q _ (I1.hok.fresh (Nat.le_refl _))⟩
theorem rels_zip : ∀ {xs : List D} {vs : List V}, Rels K H ρ xs vs → (xs.zip vs).map (·.1) = xs ∧ (xs.zip vs).map (·.2) = vs ∧ ∀ b ∈ xs.zip vs, Rel K H ρ b.1 b.2
  | [], vs, r => by rw [show vs = [] from r]; exact ⟨rfl, rfl, fun b hb => nomatch hb⟩
  | x :: xs, vs, r => by
    obtain ⟨v, w, rfl, h1, h2⟩ := r
    obtain ⟨a, b, c⟩ := rels_zip h2
    refine ⟨by simp [a], by simp [b], fun p hp => ?_⟩
    rcases List.mem_cons.mp (by simpa using hp) with rfl | hp
    · exact h1
    · exact c p hp
theorem rels_of : ∀ {bs : List (D × V)}, (∀ b ∈ bs, Rel K H ρ b.1 b.2) → Rels K H ρ (bs.map (·.1)) (bs.map (·.2))
  | [], _ => rfl
  | b :: bs, h => ⟨b.2, _, rfl, h b List.mem_cons_self, rels_of fun c hc => h c (List.mem_cons_of_mem _ hc)⟩
theorem plains_mem {xs : List D} (h : plains xs = true) : ∀ d ∈ xs, d.plain = true := by
  rw [plains_all, List.all_eq_true] at h
  exact h
theorem o_sorted : OpL K bSorted (rSortM K) := by
  intro xs zs M H ρ us Q e hr rs q
  unfold bSorted at e
  split at e
  · rename_i x
    split at e
    · rename_i ys hy
      split at e
      · rename_i hc
        cases e
        obtain ⟨h1, h2, h3, h4⟩ := hc
        obtain ⟨u, rfl, rx⟩ := rels1 rs
        obtain ⟨a, vs, rfl, hs, r⟩ := seq_rel hr hy rx
        obtain ⟨z1, z2, z3⟩ := rels_zip r
        have hp : ((ys.zip vs).map fun b => b.1.p) = ps ys := by
          rw [ps_map]
          have : ((ys.zip vs).map fun b => b.1.p) = ((ys.zip vs).map (·.1)).map D.p := by rw [List.map_map]; rfl
          rw [this, z1]
        refine ⟨a, ys.zip vs, rfl, by rw [z2]; exact hs, fun b hb => ?_, by rw [hp]; exact h2, by rw [hp]; exact h3, fun b hb => h4 _ (by rw [← hp]; exact List.mem_map.mpr ⟨b, hb, rfl⟩), fun p hp => ?_⟩
        · exact (rel_dp b.1 b.2 (plains_mem h1 _ (by rw [← z1]; exact List.mem_map.mpr ⟨b, hb, rfl⟩)) (z3 b hb)).1
        · refine q p _ ?_ hp
          have e1 : ys.mergeSort (PySem.W.dataLe false D.p) = ((ys.zip vs).mergeSort (PySem.W.dataLe false fun b => b.1.p)).map (·.1) := by
            have key := List.map_mergeSort (r := PySem.W.dataLe false fun b : D × V => b.1.p) (s := PySem.W.dataLe false D.p) (f := fun b : D × V => b.1) (l := ys.zip vs) (fun a _ b _ => rfl)
            rw [z1] at key
            exact key.symm
          rw [e1]
          exact rels_of fun b hb => z3 b ((List.mergeSort_perm _ _).mem_iff.mp hb)
      · cases e
    · cases e
  · cases e
end
end NV
end
section
set_option Elab.async false
set_option linter.all false
set_option maxRecDepth 100000
set_option maxHeartbeats 4000000
set_option autoImplicit false
namespace PySem
open Sem (wp)
/-- a zip whose last pair is kept by somebody -/
abbrev ZipOut (h : Heap) (z TI TO T : Addr) (f : Bool) : Prop :=
  h.get? z = some { cls := .type "zip", dict := none, data := .fields #[rawInt T, .bool f, .bool false, .ref TI, .ref TO], slots := #[] }
section
variable {prog : Program} {w : World} {A : Around} {E : Value → Shared → Prop} {s : Shared} {z TI TO T i1 i2 : Addr} {fp1 fp2 : List Addr} {n1 n2 i : Nat} {P1 P2 : Nat → Value → Prop} {St1 St2 : Nat → Heap → Prop} {a1 a2 : Value} {f : Bool} {oT : Obj}
theorem zipOut_free {Q : Bool → Shared → Prop} (hz : ZipOut s.heap z TI TO T f) (hT : s.heap.get? T = some oT) (h : ∀ h', ZipOut h' z TI TO T true → Heap.SameBut z s.heap h' → Q false { s with heap := h' }) :
    wpAny (model prog w) A (Builtin.SmallTypes.ownedTupleIsFree (.ref z)) Q E s := by
  unfold Builtin.SmallTypes.ownedTupleIsFree
  refine wpAny_bind (wpAny_field hz rfl (x := rawInt T) rfl ?_)
  show wpAny _ _ (loadIfAlive (Int.toNat (T : Nat)) >>= _) _ _ _
  refine wpAny_bind (PySem.W.kdx_alive (o := oT) (by simpa using hT) ?_)
  simp only [Option.isNone_some, Bool.false_eq_true, if_false]
  refine wpAny_bind (wpAny_field hz rfl (x := .bool f) rfl ?_)
  cases f with
  | true =>
    show wpAny _ _ (if ((Value.bool true) != (Value.bool true)) = true then _ else _) _ _ _
    rw [if_neg (by decide)]
    exact wpAny_pure (h _ hz ⟨rfl, fun _ _ => rfl⟩)
  | false =>
    show wpAny _ _ (if ((Value.bool false) != (Value.bool true)) = true then _ else _) _ _ _
    rw [if_pos (by decide)]
    refine wpAny_bind (wpAny_setField_rec hz (by simp) fun h' hz' hs' => wpAny_pure (h h' hz' hs'))
theorem zipA_item {Q : Value → Shared → Prop} (S : ZipSep2 z TI TO i1 i2 fp1 fp2) (D1 : Draws prog w A i1 fp1 n1 P1 St1) (D2 : Draws prog w A i2 fp2 n2 P2 St2) (hz : ZipOut s.heap z TI TO T f) (hT : s.heap.get? T = some oT)
    (hTI : IsTupOf2 s.heap TI (.ref i1) (.ref i2)) (st1 : St1 i s.heap) (st2 : St2 i s.heap) (hlt1 : i < n1) (hlt2 : i < n2)
    (hQ : ∀ x1 x2 h' tk, P1 i x1 → P2 i x2 → ZipOut h' z TI TO T true → St1 (i + 1) h' → St2 (i + 1) h' → IsTupOf2 h' s.heap.objs.size x1 x2 → h'.objs.size = s.heap.objs.size + 1 →
      (∀ c o, c ≠ z → c ≠ i1 → c ≠ i2 → s.heap.get? c = some o → h'.get? c = some o) → Q (.ref s.heap.objs.size) { s with heap := h', toks := tk }) :
    wpAny (model prog w) A (Builtin.«zip.__next__» ⟨[.ref z], []⟩) (fun fin s' => ∃ v, fin = .done (.ret v) ∧ Q v s') E s := by
  obtain ⟨hp, g, d, tk0, os⟩ := s
  show wpAny _ _ (field (.ref z) 2 >>= _) _ _ _
  refine wpAny_bind (wpAny_field hz rfl (x := .bool false) rfl ?_)
  show wpAny _ _ (field (.ref z) 3 >>= _) _ _ _
  refine wpAny_bind (wpAny_field hz rfl (x := .ref TI) rfl (wpAny_bind (wpAny_seqItems hTI rfl ?_)))
  show wpAny _ _ (Builtin.SmallTypes.ownedTupleIsFree (.ref z) >>= _) _ _ _
  refine wpAny_bind (zipOut_free hz hT fun g0 hz0 hs0 => ?_)
  replace hs0 : Heap.SameBut z hp g0 := hs0
  simp only [Bool.false_eq_true, if_false]
  refine wpAny_bind ?_
  simp only [List.forIn_cons, List.forIn_nil, Array.forIn_toList.symm]
  refine wpAny_bind (wpAny_bind (wpAny_holding ?_))
  show wpAny _ _ (Builtin.SmallTypes.nextOf (.ref i1) >>= _) _ _ ⟨g0, g, d, tk0, os⟩
  refine wpAny_bind (D1.item i _ _ _ hlt1 (D1.over st1 hs0 S.zf1) fun x1 p1 tk1 hx1 sn1 hp1 => wpAny_pure ?_)
  replace hp1 : Heap.SameBut i1 g0 p1 := hp1
  refine wpAny_pure ?_
  refine wpAny_bind (wpAny_bind (wpAny_holding ?_))
  show wpAny _ _ (Builtin.SmallTypes.nextOf (.ref i2) >>= _) _ _ ⟨p1, g, d, tk1, os⟩
  refine wpAny_bind (D2.item i _ _ _ hlt2 (D2.over (D2.over st2 hs0 S.zf2) hp1 S.sep1_2) fun x2 p2 tk2 hx2 sn2 hp2 => wpAny_pure ?_)
  replace hp2 : Heap.SameBut i2 p1 p2 := hp2
  refine wpAny_pure (wpAny_pure ?_)
  show wpAny _ _ (newTuple [x1, x2] >>= _) _ _ ⟨p2, g, d, tk2, os⟩
  refine wpAny_bind (wpAny_newTuple ?_)
  refine wpAny_pure ⟨_, rfl, ?_⟩
  have hsz : p2.objs.size = hp.objs.size := by rw [hp2.1, hp1.1, hs0.1]
  show Q (.ref p2.objs.size) ⟨p2.push { cls := .type "tuple", data := .seq #[x1, x2] }, g, d, tk2, os⟩
  rw [hsz]
  have k2 : ∀ c o, c ≠ z → c ≠ i1 → c ≠ i2 → hp.get? c = some o → p2.get? c = some o := fun c o h1 h2 h3 e => hp2.extBut _ _ h3 (hp1.extBut _ _ h2 (hs0.extBut _ _ h1 e))
  have z2 : ZipOut p2 z TI TO T true := hp2.extBut _ _ S.zi2 (hp1.extBut _ _ S.zi1 hz0)
  refine hQ x1 x2 _ tk2 hx1 hx2 (Heap.get?_push_of_some _ z2) ?_ ?_ ?_ (by rw [Heap.size_push, hsz]) fun c o h1 h2 h3 e => Heap.get?_push_of_some _ (k2 c o h1 h2 h3 e)
  · exact D1.frame _ _ _ (D1.over sn1 hp2 S.sep2_1) fun b _ o e => Heap.get?_push_of_some _ e
  · exact D2.frame _ _ _ sn2 fun b _ o e => Heap.get?_push_of_some _ e
  · rw [← hsz]; exact Heap.get?_push_size _ rfl
theorem zipA_end {Q : Fin → Shared → Prop} (S : ZipSep2 z TI TO i1 i2 fp1 fp2) (D1 : Draws prog w A i1 fp1 n1 P1 St1) (D2 : Draws prog w A i2 fp2 n2 P2 St2) (hz : ZipOut s.heap z TI TO T f) (hT : s.heap.get? T = some oT)
    (hTI : IsTupOf2 s.heap TI (.ref i1) (.ref i2)) (st1 : St1 i s.heap) (st2 : St2 i s.heap) (hle1 : i ≤ n1) (hle2 : i ≤ n2) (hend : i = n1 ∨ i = n2)
    (hE : ∀ h' tk e, (∀ c o, c ≠ z → c ≠ i1 → c ≠ i2 → s.heap.get? c = some o → h'.get? c = some o) → (∃ o, h'.get? e = some o ∧ o.cls = .type "StopIteration") → E (.ref e) { s with heap := h', toks := tk }) :
    wpAny (model prog w) A (Builtin.«zip.__next__» ⟨[.ref z], []⟩) Q E s := by
  obtain ⟨hp, g, d, tk0, os⟩ := s
  show wpAny _ _ (field (.ref z) 2 >>= _) _ _ _
  refine wpAny_bind (wpAny_field hz rfl (x := .bool false) rfl ?_)
  show wpAny _ _ (field (.ref z) 3 >>= _) _ _ _
  refine wpAny_bind (wpAny_field hz rfl (x := .ref TI) rfl (wpAny_bind (wpAny_seqItems hTI rfl ?_)))
  show wpAny _ _ (Builtin.SmallTypes.ownedTupleIsFree (.ref z) >>= _) _ _ _
  refine wpAny_bind (zipOut_free hz hT fun g0 hz0 hs0 => ?_)
  replace hs0 : Heap.SameBut z hp g0 := hs0
  simp only [Bool.false_eq_true, if_false]
  refine wpAny_bind ?_
  simp only [List.forIn_cons, List.forIn_nil, Array.forIn_toList.symm]
  refine wpAny_bind (wpAny_bind (wpAny_holding ?_))
  show wpAny _ _ (Builtin.SmallTypes.nextOf (.ref i1) >>= _) _ _ ⟨g0, g, d, tk0, os⟩
  by_cases hlt1 : i < n1
  · refine wpAny_bind (D1.item i _ _ _ hlt1 (D1.over st1 hs0 S.zf1) fun x1 p1 tk1 hx1 sn1 hp1 => wpAny_pure ?_)
    replace hp1 : Heap.SameBut i1 g0 p1 := hp1
    refine wpAny_pure ?_
    refine wpAny_bind (wpAny_bind (wpAny_holding ?_))
    show wpAny _ _ (Builtin.SmallTypes.nextOf (.ref i2) >>= _) _ _ ⟨p1, g, d, tk1, os⟩
    have e2 : i = n2 := by omega
    subst e2
    refine wpAny_bind (D2.done _ _ _ (D2.over (D2.over st2 hs0 S.zf2) hp1 S.sep1_2) fun h' e hk he => ?_)
    exact hE h' tk1 e (fun c o h1 h2 h3 q => hk c o h3 (hp1.extBut _ _ h2 (hs0.extBut _ _ h1 q))) he
  · have e1 : i = n1 := by omega
    subst e1
    refine wpAny_bind (D1.done _ _ _ (D1.over st1 hs0 S.zf1) fun h' e hk he => ?_)
    exact hE h' tk0 e (fun c o h1 h2 h3 q => hk c o h2 (hs0.extBut _ _ h1 q)) he
end
section
variable {prog : Program} {w : World} {A : Around} {E : Value → Shared → Prop} {s : Shared} {z TI TO T i1 i2 : Addr} {fp1 fp2 : List Addr} {n1 n2 i : Nat} {P1 P2 : Nat → Value → Prop} {St1 St2 : Nat → Heap → Prop} {a1 a2 : Value} {f : Bool} {oT : Obj}
theorem next_zipA_item {Q : Option Value → Shared → Prop} (S : ZipSep2 z TI TO i1 i2 fp1 fp2) (D1 : Draws prog w A.in1 i1 fp1 n1 P1 St1) (D2 : Draws prog w A.in1 i2 fp2 n2 P2 St2) (hz : ZipOut s.heap z TI TO T f) (hT : s.heap.get? T = some oT)
    (hTI : IsTupOf2 s.heap TI (.ref i1) (.ref i2)) (st1 : St1 i s.heap) (st2 : St2 i s.heap) (hlt1 : i < n1) (hlt2 : i < n2)
    (hQ : ∀ x1 x2 h' tk, P1 i x1 → P2 i x2 → ZipOut h' z TI TO T true → St1 (i + 1) h' → St2 (i + 1) h' → IsTupOf2 h' s.heap.objs.size x1 x2 → h'.objs.size = s.heap.objs.size + 1 →
      (∀ c o, c ≠ z → c ≠ i1 → c ≠ i2 → s.heap.get? c = some o → h'.get? c = some o) → Q (some (.ref s.heap.objs.size)) { s with heap := h', toks := tk }) :
    wpAny (model prog w) A (pyNext (.ref z)) Q E s := by
  have hTy : s.TypeIs (.ref z) "zip" := ⟨_, hz, rfl⟩
  unfold pyNext
  exact wpAny_bind (wpAny_attempt (wpAny_callSpecial?_slot (name := Str.ofString "__next__") hTy F.slot_zip_next (wpAny_call_entry F.slot_zip_next hTy F.entry_zip_next
    (zipA_item S D1 D2 hz hT hTI st1 st2 hlt1 hlt2 fun x1 x2 h' tk y1 y2 b1 d1 d2 b5 b6 b7 => wpAny_pure (hQ x1 x2 h' tk y1 y2 b1 d1 d2 b5 b6 b7)) (F.args_zip_next_1 _))))
theorem next_zipA_end {Q : Option Value → Shared → Prop} (S : ZipSep2 z TI TO i1 i2 fp1 fp2) (D1 : Draws prog w A.in1 i1 fp1 n1 P1 St1) (D2 : Draws prog w A.in1 i2 fp2 n2 P2 St2) (hz : ZipOut s.heap z TI TO T f) (hT : s.heap.get? T = some oT)
    (hTI : IsTupOf2 s.heap TI (.ref i1) (.ref i2)) (st1 : St1 i s.heap) (st2 : St2 i s.heap) (hle1 : i ≤ n1) (hle2 : i ≤ n2) (hend : i = n1 ∨ i = n2)
    (hQ : ∀ h' tk, (∀ c o, c ≠ z → c ≠ i1 → c ≠ i2 → s.heap.get? c = some o → h'.get? c = some o) → Q none { s with heap := h', toks := tk }) : wpAny (model prog w) A (pyNext (.ref z)) Q E s := by
  have hTy : s.TypeIs (.ref z) "zip" := ⟨_, hz, rfl⟩
  unfold pyNext
  refine wpAny_bind (wpAny_attempt (wpAny_callSpecial?_slot (name := Str.ofString "__next__") hTy F.slot_zip_next (wpAny_call_entry F.slot_zip_next hTy F.entry_zip_next (zipA_end S D1 D2 hz hT hTI st1 st2 hle1 hle2 hend fun h' tk e hk ⟨o, ho, hc⟩ => ?_) (F.args_zip_next_1 _))))
  exact wpAny_bind (wpAny_isInstance (T := "StopIteration") (b := true) ⟨o, ho, hc⟩ isSubtype_stop (wpAny_pure (hQ _ _ hk)))
end
end PySem
end
section
set_option Elab.async false
set_option linter.all false
set_option maxRecDepth 100000
set_option maxHeartbeats 4000000
set_option autoImplicit false
namespace PySem
open Sem (wp)
namespace F
theorem nv_zip_nolen : typeLookup (.type "zip") "__len__" = pure none := by rw [typeLookup_type, builtinLookup_eq_fast]; kernel_rfl
theorem nv_zip_nohint : typeLookup (.type "zip") "__length_hint__" = pure none := by rw [typeLookup_type, builtinLookup_eq_fast]; kernel_rfl
end F
/-- the pairs that were given so far, above S -/
structure ZPairs (P1 P2 : Nat → Value → Prop) (S : Addr) (h : Heap) (as : List Addr) : Prop where
  above : ∀ t ∈ as, S < t ∧ t < h.objs.size
  rise : as.Pairwise (· < ·)
  pairs : ∀ j t, as[j]? = some t → ∃ x1 x2, IsTupOf2 h t x1 x2 ∧ P1 j x1 ∧ P2 j x2
section
variable {prog : Program} {w : World} {A : Around} {R : Result → Shared → Prop} {E : Value → Shared → Prop} {s0 : Shared} {z TI TO i1 i2 : Addr} {fp1 fp2 : List Addr} {n1 n2 : Nat} {P1 P2 : Nat → Value → Prop} {St1 St2 : Nat → Heap → Prop}
/-- the zip at turn i, the pairs at as given -/
def ZAt (z TI TO i1 i2 : Addr) (St1 St2 : Nat → Heap → Prop) (h : Heap) (as : List Addr) : Prop :=
  IsTupOf2 h TI (.ref i1) (.ref i2) ∧ St1 as.length h ∧ St2 as.length h ∧ ((as = [] ∧ IsZip h z TI TO .none ∧ ∃ a1 a2, IsTupOf2 h TO a1 a2) ∨ ∃ T f oT, T ∈ as ∧ ZipOut h z TI TO T f ∧ h.get? T = some oT)
/-- S is none of the zip's cells, above them -/
structure ZLow (z TI TO i1 i2 : Addr) (fp1 fp2 : List Addr) (S : Addr) : Prop where
  z : z < S
  TI : TI < S
  TO : TO < S
  i1 : i1 < S
  i2 : i2 < S
  f1 : ∀ b ∈ fp1, b < S
  f2 : ∀ b ∈ fp2, b < S
theorem ZPairs.kept {h h' : Heap} {S : Addr} {as : List Addr} (g : ZPairs P1 P2 S h as) (k : ∀ b o, S < b → h.get? b = some o → h'.get? b = some o) (hs : h.objs.size ≤ h'.objs.size) : ZPairs P1 P2 S h' as :=
  ⟨fun t ht => ⟨(g.above t ht).1, Nat.lt_of_lt_of_le (g.above t ht).2 hs⟩, g.rise, fun j t e => by
    obtain ⟨x1, x2, q, p⟩ := g.pairs j t e
    exact ⟨x1, x2, k t _ (g.above t (List.mem_of_getElem? e)).1 q, p⟩⟩
theorem ZPairs.add {h h' : Heap} {S : Addr} {as : List Addr} {x1 x2 : Value} (g : ZPairs P1 P2 S h as) (hS : S < h.objs.size) (k : ∀ b o, S < b → h.get? b = some o → h'.get? b = some o) (hs : h'.objs.size = h.objs.size + 1) (ht : IsTupOf2 h' h.objs.size x1 x2) (p1 : P1 as.length x1) (p2 : P2 as.length x2) : ZPairs P1 P2 S h' (as ++ [h.objs.size]) := by
  have g' := g.kept k (by rw [hs]; exact Nat.le_succ _)
  refine ⟨fun t ht' => ?_, ?_, fun j t e => ?_⟩
  · rcases List.mem_append.mp ht' with q | q
    · exact g'.above t q
    · rw [List.mem_singleton.mp q]; exact ⟨hS, by rw [hs]; exact Nat.lt_succ_self _⟩
  · refine List.pairwise_append.mpr ⟨g.rise, by simp, fun a ha b hb => ?_⟩
    rw [List.mem_singleton.mp hb]
    exact (g.above a ha).2
  · by_cases hj : j < as.length
    · rw [List.getElem?_append_left hj] at e
      exact g'.pairs j t e
    · have hj' : j = as.length := by
        have := (List.getElem?_eq_some_iff.mp e).1
        simp at this
        omega
      subst hj'
      rw [List.getElem?_append_right (Nat.le_refl _)] at e
      simp at e
      subst e
      exact ⟨x1, x2, ht, p1, p2⟩
/-- one turn: a pair more, or the end -/
theorem zl_next {h : Heap} {tk : Nat} {as : List Addr} {S : Addr} {Q : Option Value → Shared → Prop} (Sp : ZipSep2 z TI TO i1 i2 fp1 fp2) (L : ZLow z TI TO i1 i2 fp1 fp2 S) (D1 : Draws prog w A.in1 i1 fp1 n1 P1 St1) (D2 : Draws prog w A.in1 i2 fp2 n2 P2 St2)
    (Z : ZAt z TI TO i1 i2 St1 St2 h as) (g : ZPairs P1 P2 S h as) (hS : S < h.objs.size) (hle1 : as.length ≤ n1) (hle2 : as.length ≤ n2)
    (hn : as.length = min n1 n2 → ∀ h' tk', (∀ c o, c ≠ z → c ≠ TO → c ≠ i1 → c ≠ i2 → h.get? c = some o → h'.get? c = some o) → ZPairs P1 P2 S h' as → Q none { s0 with heap := h', toks := tk' })
    (hs : as.length < min n1 n2 → ∀ h' tk', (∀ c o, c ≠ z → c ≠ TO → c ≠ i1 → c ≠ i2 → h.get? c = some o → h'.get? c = some o) → ZAt z TI TO i1 i2 St1 St2 h' (as ++ [h.objs.size]) → ZPairs P1 P2 S h' (as ++ [h.objs.size]) → h'.objs.size = h.objs.size + 1 → Q (some (.ref h.objs.size)) { s0 with heap := h', toks := tk' }) :
    wpAny (model prog w) A (pyNext (.ref z)) Q E { s0 with heap := h, toks := tk } := by
  obtain ⟨hTI, st1, st2, Z⟩ := Z
  have hk : ∀ (h' : Heap), (∀ c o, c ≠ z → c ≠ TO → c ≠ i1 → c ≠ i2 → h.get? c = some o → h'.get? c = some o) → ∀ b o, S < b → h.get? b = some o → h'.get? b = some o := fun h' k b o hb e =>
    k b o (Nat.ne_of_gt (Nat.lt_trans L.z hb)) (Nat.ne_of_gt (Nat.lt_trans L.TO hb)) (Nat.ne_of_gt (Nat.lt_trans L.i1 hb)) (Nat.ne_of_gt (Nat.lt_trans L.i2 hb)) e
  have grow : ∀ h' : Heap, (∀ c o, c ≠ z → c ≠ TO → c ≠ i1 → c ≠ i2 → h.get? c = some o → h'.get? c = some o) → ∀ t ∈ as, t < h'.objs.size := fun h' k t ht => by
    obtain ⟨j, hj, e⟩ := List.getElem_of_mem ht
    obtain ⟨x1, x2, q, _⟩ := g.pairs j t (by rw [List.getElem?_eq_getElem hj, e])
    exact Heap.lt_size (hk h' k t _ (g.above t ht).1 q)
  have keepP : ∀ h' : Heap, (∀ c o, c ≠ z → c ≠ TO → c ≠ i1 → c ≠ i2 → h.get? c = some o → h'.get? c = some o) → ZPairs P1 P2 S h' as := fun h' k =>
    ⟨fun t ht => ⟨(g.above t ht).1, grow h' k t ht⟩, g.rise, fun j t e => by
      obtain ⟨x1, x2, q, p⟩ := g.pairs j t e
      exact ⟨x1, x2, hk h' k t _ (g.above t (List.mem_of_getElem? e)).1 q, p⟩⟩
  by_cases hlt : as.length < min n1 n2
  · have l1 : as.length < n1 := by omega
    have l2 : as.length < n2 := by omega
    have fin : ∀ (h' : Heap) (T : Addr) (f : Bool) (oT : Obj), (∀ c o, c ≠ z → c ≠ TO → c ≠ i1 → c ≠ i2 → h.get? c = some o → h'.get? c = some o) → St1 (as.length + 1) h' → St2 (as.length + 1) h' → T ∈ as ++ [h.objs.size] → ZipOut h' z TI TO T f → h'.get? T = some oT →
        ZAt z TI TO i1 i2 St1 St2 h' (as ++ [h.objs.size]) := fun h' T f oT k s1 s2 hT hz ho => by
      refine ⟨k TI _ Sp.TIz Sp.TITO Sp.TIi1 Sp.TIi2 hTI, by rw [List.length_append]; exact s1, by rw [List.length_append]; exact s2, .inr ⟨T, f, oT, hT, hz, ho⟩⟩
    rcases Z with ⟨rfl, hz, a1, a2, hTO⟩ | ⟨T, f, oT, hT, hz, ho⟩
    · refine wpAny_pyNext_zipD2_item Sp D1 D2 hz hTI hTO st1 st2 l1 l2 fun x1 x2 h' tk' p1 p2 hz' hTO' s1 s2 hN hsz k => ?_
      exact hs hlt h' tk' k (fin h' h.objs.size false _ k s1 s2 (List.mem_append_right _ (List.mem_singleton.mpr rfl)) hz' hN) (g.add hS (hk h' k) hsz hN p1 p2) hsz
    · refine next_zipA_item Sp D1 D2 hz ho hTI st1 st2 l1 l2 fun x1 x2 h' tk' p1 p2 hz' s1 s2 hN hsz k => ?_
      have k' : ∀ c o, c ≠ z → c ≠ TO → c ≠ i1 → c ≠ i2 → h.get? c = some o → h'.get? c = some o := fun c o c1 _ c3 c4 e => k c o c1 c3 c4 e
      exact hs hlt h' tk' k' (fin h' T true oT k' s1 s2 (List.mem_append_left _ hT) hz' (hk h' k' T oT (g.above T hT).1 ho)) (g.add hS (hk h' k') hsz hN p1 p2) hsz
  · have he : as.length = min n1 n2 := by omega
    have hend : as.length = n1 ∨ as.length = n2 := by omega
    rcases Z with ⟨rfl, hz, a1, a2, hTO⟩ | ⟨T, f, oT, hT, hz, ho⟩
    · exact wpAny_pyNext_zipD2_end Sp D1 D2 hz hTI hTO st1 st2 hle1 hle2 hend fun h' tk' k => hn he h' tk' k (keepP h' k)
    · exact next_zipA_end Sp D1 D2 hz ho hTI st1 st2 hle1 hle2 hend fun h' tk' k => by
        have k' : ∀ c o, c ≠ z → c ≠ TO → c ≠ i1 → c ≠ i2 → h.get? c = some o → h'.get? c = some o := fun c o c1 _ c3 c4 e => k c o c1 c3 c4 e
        exact hn he h' tk' k' (keepP h' k')
abbrev ListObj (acc : Array Value) (c : Nat) : Obj := { cls := .type "list", dict := none, data := .seq acc c, slots := #[] }
theorem zl_loop {S : Addr} {res : Value} {h0 : Heap} (Sp : ZipSep2 z TI TO i1 i2 fp1 fp2) (L : ZLow z TI TO i1 i2 fp1 fp2 S) (D1 : Draws prog w A.in1.in1 i1 fp1 n1 P1 St1) (D2 : Draws prog w A.in1.in1 i2 fp2 n2 P2 St2) (hn : min n1 n2 ≤ sizeLine)
    (hR : ∀ h' tk' as' acc' c', (∀ b o, b ≠ z → b ≠ TO → b ≠ i1 → b ≠ i2 → b ≠ S → h0.get? b = some o → h'.get? b = some o) → h'.get? S = some (ListObj acc' c') → acc'.toList = as'.map Value.ref → ZPairs P1 P2 S h' as' → as'.length = min n1 n2 → R (.ok (.ret res)) { s0 with heap := h', toks := tk' }) :
    ∀ (k : Nat) (h : Heap) (tk : Nat) (as : List Addr) (acc : Array Value) (c : Nat), min n1 n2 - as.length = k → as.length ≤ min n1 n2 → ZAt z TI TO i1 i2 St1 St2 h as → ZPairs P1 P2 S h as → h.get? S = some (ListObj acc c) → acc.toList = as.map Value.ref →
      (∀ b o, b ≠ z → b ≠ TO → b ≠ i1 → b ≠ i2 → b ≠ S → h0.get? b = some o → h.get? b = some o) → codeAny (model prog w) A (.builtin "list.extend.loop" ⟨[.ref S, .ref z, res], []⟩) R { s0 with heap := h, toks := tk } := by
  have apart : ∀ b, b < S → b ≠ S := fun b hb => Nat.ne_of_lt hb
  intro k
  induction k with
  | zero =>
    intro h tk as acc c hk hle Z g hS ha k0
    refine codeAny_builtin F.entry_extend_loop ?_
    rw [Around.under_plainId F.plain_extend_loop _]
    show wpAny _ A.in1 (pyNext (.ref z) >>= _) _ _ _
    refine wpAny_bind (zl_next (s0 := s0) Sp L D1 D2 Z g (Heap.lt_size hS) (by omega) (by omega) (fun _ h' tk' k' g' => ?_) (fun hlt => by omega))
    refine wpAny_pure (hR h' tk' as acc c (fun b o b1 b2 b3 b4 b5 e => k' b o b1 b2 b3 b4 (k0 b o b1 b2 b3 b4 b5 e)) ?_ ha g' (by omega))
    exact k' S _ (Nat.ne_of_gt L.z) (Nat.ne_of_gt L.TO) (Nat.ne_of_gt L.i1) (Nat.ne_of_gt L.i2) hS
  | succ k ih =>
    intro h tk as acc c hk hle Z g hS ha k0
    refine codeAny_builtin F.entry_extend_loop ?_
    rw [Around.under_plainId F.plain_extend_loop _]
    show wpAny _ A.in1 (pyNext (.ref z) >>= _) _ _ _
    refine wpAny_bind (zl_next (s0 := s0) Sp L D1 D2 Z g (Heap.lt_size hS) (by omega) (by omega) (fun he => by omega) (fun hlt h' tk' k' Z' g' hsz => ?_))
    have hS' : h'.get? S = some (ListObj acc c) := k' S _ (Nat.ne_of_gt L.z) (Nat.ne_of_gt L.TO) (Nat.ne_of_gt L.i1) (Nat.ne_of_gt L.i2) hS
    have hal : acc.size = as.length := by
      have := congrArg List.length ha
      simpa using this
    show wpAny _ A.in1 (updateSeq S (·.push (.ref h.objs.size)) >>= _) _ _ _
    refine wpAny_bind (wpAny_updateSeq hS' rfl (wpAny_pure ⟨plainId_quiet F.plain_extend_loop _, ?_⟩) (by rw [hal]; omega) (by show (acc.push _).size ≤ sizeLine + 1; rw [Array.size_push, hal]; omega))
    have over : ∀ b o, b ≠ S → h'.get? b = some o → (h'.update S (Obj.mapSeq (·.push (.ref h.objs.size)))).get? b = some o := fun b o hb e => (Heap.get?_update_other _ _ (Ne.symm hb)).trans e
    obtain ⟨z1, z2, z3, z4⟩ := Z'
    have Z2 : ZAt z TI TO i1 i2 St1 St2 (h'.update S (Obj.mapSeq (·.push (.ref h.objs.size)))) (as ++ [h.objs.size]) := by
      refine ⟨over TI _ (apart _ L.TI) z1, D1.frame _ _ _ z2 fun b hb o e => over b o (apart _ (L.f1 b hb)) e, D2.frame _ _ _ z3 fun b hb o e => over b o (apart _ (L.f2 b hb)) e, ?_⟩
      rcases z4 with ⟨q, _⟩ | ⟨T, f, oT, q1, q2, q3⟩
      · simp at q
      · exact .inr ⟨T, f, oT, q1, over z _ (apart _ L.z) q2, over T oT (Nat.ne_of_gt (g'.above T q1).1) q3⟩
    refine ih _ tk' (as ++ [h.objs.size]) (acc.push (.ref h.objs.size)) _ (by rw [List.length_append]; simp; omega) (by rw [List.length_append]; simp; omega) Z2
      (g'.kept (fun b o hb e => over b o (Nat.ne_of_gt hb) e) (by rw [Heap.size_update]; exact Nat.le_refl _)) (Heap.get?_update_self _ hS' rfl) (by simp [ha]) fun b o b1 b2 b3 b4 b5 e => over b o b5 (k' b o b1 b2 b3 b4 (k0 b o b1 b2 b3 b4 b5 e))
theorem zl_init {S : Addr} {h : Heap} {tk : Nat} (Sp : ZipSep2 z TI TO i1 i2 fp1 fp2) (L : ZLow z TI TO i1 i2 fp1 fp2 S) (D1 : Draws prog w A.in1.in1 i1 fp1 n1 P1 St1) (D2 : Draws prog w A.in1.in1 i2 fp2 n2 P2 St2) (hn : min n1 n2 ≤ sizeLine)
    (Z : ZAt z TI TO i1 i2 St1 St2 h []) (hS : h.get? S = some { cls := .type "list", data := .seq #[] })
    (hR : ∀ h' tk' as' acc' c', (∀ b o, b ≠ z → b ≠ TO → b ≠ i1 → b ≠ i2 → b ≠ S → h.get? b = some o → h'.get? b = some o) → h'.get? S = some (ListObj acc' c') → acc'.toList = as'.map Value.ref → ZPairs P1 P2 S h' as' → as'.length = min n1 n2 → R (.ok (.ret .none)) { s0 with heap := h', toks := tk' }) :
    wpAny (model prog w) A.in1 (Builtin.«list.__init__» ⟨[.ref S, .ref z], []⟩)
      (fun fin s' => match fin with | .done f => R (.ok f) s' | .again c' => c'.quiet = true ∧ codeAny (model prog w) A c' R s') (fun e s' => R (.error e) s') { s0 with heap := h, toks := tk } := by
  show wpAny _ A.in1 (do let old ← Builtin.List.listItems (.ref S); Builtin.List.listUpdate (.ref S) (fun _ => #[]); letGo old.toList.reverse; Builtin.List.listExtendWith (.ref S) (.ref z) .none) _ _ _
  refine wpAny_bind ?_
  unfold Builtin.List.listItems
  refine wpAny_bind (wpAny_seqItems hS rfl (wpAny_pure ?_))
  show wpAny _ A.in1 (updateSeq S (fun _ => #[]) >>= fun _ => letGo (#[] : Array Value).toList.reverse >>= fun _ => Builtin.List.listExtendWith (.ref S) (.ref z) .none) _ _ _
  refine wpAny_bind (wpAny_updateSeq hS rfl (wpAny_bind (wpAny_letGo ?_)))
  have hS1 := Heap.get?_update_self (Obj.mapSeq (fun _ => (#[] : Array Value))) hS rfl
  obtain ⟨z1, z2, z3, z4⟩ := Z
  have hz : IsZip h z TI TO .none ∧ ∃ a1 a2, IsTupOf2 h TO a1 a2 := by
    rcases z4 with ⟨_, a, b⟩ | ⟨_, _, _, q, _⟩
    · exact ⟨a, b⟩
    · cases q
  have hzS : z ≠ S := Nat.ne_of_lt L.z
  have o1 : ∀ b o, b ≠ S → h.get? b = some o → (h.update S (Obj.mapSeq (fun _ => (#[] : Array Value)))).get? b = some o := fun b o hb e => (Heap.get?_update_other _ _ (Ne.symm hb)).trans e
  have ty : Shared.TypeIs { s0 with heap := h.update S (Obj.mapSeq (fun _ => (#[] : Array Value))), toks := tk } (.ref z) "zip" := ⟨_, o1 z _ hzS hz.1, rfl⟩
  unfold Builtin.List.listExtendWith
  refine wpAny_bind (wpAny_typeOf ty ?_)
  have h1 : Builtin.List.listSameRef (.ref S) (.ref z) = false := by simp [Builtin.List.listSameRef, Ne.symm hzS]
  have h2 : (Value.type "zip" == Value.type "list") = false := by decide
  have h3 : (Value.type "zip" == Value.type "tuple") = false := by decide
  simp only [h1, h2, h3, Bool.or_false, Bool.false_eq_true, if_false]
  refine wpAny_bind (wpAny_pyIter_zip (o1 z _ hzS hz.1) (wpAny_bind (wpAny_holding ?_)))
  unfold Builtin.List.listLengthHint
  refine wpAny_bind (wpAny_specialOf ty F.nv_zip_nolen ?_)
  show wpAny _ A.in1 (specialOf (Value.ref z) (Str.ofString "__length_hint__") >>= _) _ _ _
  refine wpAny_bind (wpAny_specialOf ty F.nv_zip_nohint (wpAny_pure ?_))
  show wpAny _ A.in1 (rule "list.extend.makes-room" >>= fun _ => Builtin.List.listTouch (.ref S) >>= fun _ =>
    again (.builtin "list.extend.loop" ⟨[.ref S, .ref z, .none], []⟩)) _ _ _
  refine wpAny_bind (wpAny_rule (wpAny_bind ?_))
  show wpAny _ A.in1 (updateSeq S (·.push .none) >>= fun _ => updateSeq S (·.pop)) _ _ _
  refine wpAny_bind (wpAny_updateSeq hS1 rfl ?_)
  have hS2 := Heap.get?_update_self (Obj.mapSeq (·.push Value.none)) hS1 rfl
  refine wpAny_updateSeq (hz := by seq_fits) hS2 rfl ?_
  have hS3 := Heap.get?_update_self (Obj.mapSeq (·.pop)) hS2 rfl
  have oth : ∀ b o, b ≠ S → h.get? b = some o → (((h.update S (Obj.mapSeq (fun _ => (#[] : Array Value)))).update S (Obj.mapSeq (·.push Value.none))).update S (Obj.mapSeq (·.pop))).get? b = some o :=
    fun b o hb e => (Heap.get?_update_other _ _ (Ne.symm hb)).trans ((Heap.get?_update_other _ _ (Ne.symm hb)).trans (o1 b o hb e))
  refine wpAny_pure ⟨plainId_quiet F.plain_extend_loop _, zl_loop (s0 := s0) (h0 := h) Sp L D1 D2 hn hR _ _ tk [] #[] _ rfl (Nat.zero_le _) ⟨oth TI _ (Nat.ne_of_lt L.TI) z1, D1.frame _ _ _ z2 fun b hb o e => oth b o (Nat.ne_of_lt (L.f1 b hb)) e,
    D2.frame _ _ _ z3 fun b hb o e => oth b o (Nat.ne_of_lt (L.f2 b hb)) e, .inl ⟨rfl, oth z _ hzS hz.1, ?_⟩⟩ ⟨fun t ht => (nomatch ht), List.Pairwise.nil, fun j t e => by simp at e⟩ hS3 rfl fun b o _ _ _ _ b5 e => oth b o b5 e⟩
  obtain ⟨a1, a2, q⟩ := hz.2
  exact ⟨a1, a2, oth TO _ (Nat.ne_of_lt L.TO) q⟩
/-- list(z), z a zip that nobody has begun: the new list at S, the pairs behind it -/
theorem zl_call {h : Heap} {tk : Nat} {Q : Value → Shared → Prop} (Sp : ZipSep2 z TI TO i1 i2 fp1 fp2) (L : ZLow z TI TO i1 i2 fp1 fp2 h.objs.size) (D1 : Draws prog w A.in1.in1.in1 i1 fp1 n1 P1 St1) (D2 : Draws prog w A.in1.in1.in1 i2 fp2 n2 P2 St2) (hn : min n1 n2 ≤ sizeLine)
    (Z : ZAt z TI TO i1 i2 St1 St2 h [])
    (hQ : ∀ h' tk' as' acc' c', (∀ b o, b ≠ z → b ≠ TO → b ≠ i1 → b ≠ i2 → h.get? b = some o → h'.get? b = some o) → h'.get? h.objs.size = some (ListObj acc' c') → acc'.toList = as'.map Value.ref → ZPairs P1 P2 h.objs.size h' as' → as'.length = min n1 n2 → Q (.ref h.objs.size) { s0 with heap := h', toks := tk' }) :
    wpAny (model prog w) A (call (.type "list") [.ref z]) Q E { s0 with heap := h, toks := tk } := by
  refine callType_codes (Q₁ := fun obj s₁ => obj = .ref h.objs.size ∧ s₁ = { s0 with heap := h.push { cls := .type "list", data := .seq #[] }, toks := tk }) F.called_list (F.typeCall_list_1 _) F.entry_list_init
    (code_list_new _ ⟨rfl, rfl⟩) fun obj s₁ h₁ => ?_
  obtain ⟨rfl, rfl⟩ := h₁
  have hS : (h.push { cls := .type "list", data := .seq #[] }).get? h.objs.size = some { cls := .type "list", data := .seq #[] } := Heap.get?_push_size _ rfl
  have up : ∀ b o, h.get? b = some o → (h.push { cls := .type "list", data := .seq #[] }).get? b = some o := fun b o e => Heap.get?_push_of_some _ e
  obtain ⟨z1, z2, z3, z4⟩ := Z
  refine ⟨⟨_, hS, rfl⟩, F.args_list_init_2 _ _, zl_init (s0 := s0) Sp L D1 D2 hn ⟨up _ _ z1, D1.frame _ _ _ z2 fun b _ o e => up b o e, D2.frame _ _ _ z3 fun b _ o e => up b o e, ?_⟩ hS fun h' tk' as' acc' c' k e1 e2 e3 e4 => ⟨rfl, hQ h' tk' as' acc' c' (fun b o b1 b2 b3 b4 e => k b o b1 b2 b3 b4 (Nat.ne_of_lt (Heap.lt_size e)) (up b o e)) e1 e2 e3 e4⟩⟩
  rcases z4 with ⟨a, b, a1, a2, q⟩ | ⟨_, _, _, q, _⟩
  · exact .inl ⟨a, up _ _ b, a1, a2, up _ _ q⟩
  · cases q
end
end PySem
end
section
set_option Elab.async false
set_option linter.all false
set_option maxRecDepth 100000
set_option maxHeartbeats 4000000
set_option autoImplicit false
namespace NV
open PySem PySem.Spec L2

/-! ### list(zip(a, b)) -/
/-- the pairs tracked at their addresses -/
def putP : Hp → List Addr → List (V × V) → Hp
  | H, a :: as, p :: ps => putP (upd H a (.tup [p.1, p.2])) as ps
  | H, _, _ => H
theorem putP_off {b : Addr} : ∀ (as : List Addr) (ps : List (V × V)) (H : Hp), b ∉ as → putP H as ps b = H b
  | [], _, _, _ => rfl
  | _ :: _, [], _, _ => rfl
  | a :: as, p :: ps, H, h => by
    have e := putP_off (b := b) as ps (upd H a (.tup [p.1, p.2])) fun z => h (List.mem_cons_of_mem _ z)
    exact e.trans (upd_ne fun z => h (by rw [z]; exact List.mem_cons_self))
theorem putP_get : ∀ (as : List Addr) (ps : List (V × V)) (H : Hp), as.length = ps.length → as.Nodup → ∀ (j : Nat) (t : Addr) (p : V × V), as[j]? = some t → ps[j]? = some p → putP H as ps t = some (.tup [p.1, p.2])
  | [], _, _, _, _, j, t, p, e, _ => by simp at e
  | a :: as, [], _, h, _, _, _, _, _, _ => by cases h
  | a :: as, q :: ps, H, h, hn, 0, t, p, e1, e2 => by
    have hn' := List.nodup_cons.mp hn
    simp at e1 e2
    subst e1 e2
    exact (putP_off as ps _ hn'.1).trans upd_same
  | a :: as, q :: ps, H, h, hn, j + 1, t, p, e1, e2 => putP_get as ps _ (Nat.succ.inj h) (List.nodup_cons.mp hn).2 j t p (by simpa using e1) (by simpa using e2)
def rZipL (K : PySem.W.Frag) : List V → Hp → VK → Prop := fun vs H Q => ∃ a b xs ys, vs = [.ref a, .ref b] ∧ ((SqL K H a xs ∧ SqL K H b ys) ∨ (SqT K H a xs ∧ SqT K H b ys)) ∧
  ∀ (H' : Hp) (p : Addr) (ts : List Addr), (∀ b o, H b = some o → H' b = some o) → H p = none → (∀ t ∈ ts, H t = none) → p ∉ ts → H' p = some (.lst (ts.map V.ref)) → ts.length = (xs.zip ys).length → (∀ (j : Nat) (t : Addr) (q : V × V), ts[j]? = some t → (xs.zip ys)[j]? = some q → H' t = some (.tup [q.1, q.2])) → Q (.ref p) H'
section
variable {X : Cx} {pins : List (Addr × Obj)} {σ : L2.St} {H : Hp} {s : Shared}
theorem zip_laid {h' : Heap} {tk : Nat} {xs ys : List V} {us ws : List Value} {acc : Array Value} {c S : Nat} {as : List Addr} (I : Inv X pins σ H s) (hz : (xs.zip ys).length ≤ sizeLine) (r1 : Vals xs us) (r2 : Vals ys ws) (hlow : s.heap.objs.size ≤ S)
    (hk : ∀ b o, s.heap.get? b = some o → h'.get? b = some o) (hS : h'.get? S = some (ListObj acc c)) (hl : as.length = (xs.zip ys).length) (g : ZPairs (fun i v => us[i]? = some v) (fun i v => ws[i]? = some v) S h' as) (hacc : acc.toList = as.map Value.ref) :
    ∃ H' : Hp, (∀ b o, H b = some o → H' b = some o) ∧ H S = none ∧ (∀ t ∈ as, H t = none) ∧ S ∉ as ∧ H' S = some (.lst (as.map V.ref)) ∧ (∀ (j : Nat) (t : Addr) (q : V × V), as[j]? = some t → (xs.zip ys)[j]? = some q → H' t = some (.tup [q.1, q.2])) ∧ Inv X pins σ H' { s with heap := h', toks := tk } := by
  have above : ∀ t ∈ as, s.heap.objs.size ≤ t := fun t ht => Nat.le_trans hlow (Nat.le_of_lt (g.above t ht).1)
  have hSn : S ∉ as := fun z => Nat.lt_irrefl _ (g.above _ z).1
  have nd : as.Nodup := g.rise.imp fun {a b} h => Nat.ne_of_lt h
  have new : ∀ t ∈ as, H t = none := fun t ht => I.hok.fresh (above t ht)
  have newS : H S = none := I.hok.fresh hlow
  have atP := putP_get as (xs.zip ys) (upd H S (.lst (as.map V.ref))) hl nd
  have off : ∀ b, b ∉ as → b ≠ S → putP (upd H S (.lst (as.map V.ref))) as (xs.zip ys) b = H b := fun b h1 h2 => (putP_off as _ _ h1).trans (upd_ne h2)
  have kp : ∀ b u, H b = some u → (putP (upd H S (.lst (as.map V.ref))) as (xs.zip ys)) b = some u := fun b u e =>
    (off b (fun z => by rw [new b z] at e; cases e) fun z => by rw [z, newS] at e; cases e).trans e
  have eS : putP (upd H S (.lst (as.map V.ref))) as (xs.zip ys) S = some (.lst (as.map V.ref)) := (putP_off as _ _ hSn).trans upd_same
  refine ⟨putP (upd H S (.lst (as.map V.ref))) as (xs.zip ys), kp, newS, new, hSn, eS, atP, ?_⟩
  refine I.call' (ch := []) rfl ⟨fun b o q _ _ _ => hk b o q, fun b o q _ _ _ => ⟨o.slots, hk b o q⟩, fun b o q n _ => ?_, fun b o q _ => ⟨o, hk b o q⟩, fun b xs q => kp b _ q, fun b o u q => kp b _ q, fun b ps q => ⟨#[], by rw [kp b _ q]; simp⟩⟩ (fun b u q => ?_) I.bare fun b z => by simp at z
  · have hb := Heap.lt_size q
    exact (off b (fun z => absurd hb (Nat.not_lt.mpr (above b z))) fun z => absurd hb (Nat.not_lt.mpr (by rw [z]; exact hlow))).trans n
  · by_cases hb : b ∈ as
    · obtain ⟨j, hj, e⟩ := List.getElem_of_mem hb
      have e1 : as[j]? = some b := by rw [List.getElem?_eq_getElem hj, e]
      have hj2 : j < (xs.zip ys).length := by rw [← hl]; exact hj
      have e2 : (xs.zip ys)[j]? = some (xs.zip ys)[j] := List.getElem?_eq_getElem hj2
      have e3 := atP j b _ e1 e2
      rw [e3] at q
      cases q
      obtain ⟨x1, x2, f1, f2, f3⟩ := g.pairs j b e1
      have l1 : j < xs.length := by rw [List.length_zip] at hj2; omega
      have l2 : j < ys.length := by rw [List.length_zip] at hj2; omega
      obtain ⟨u, hu, ru⟩ := r1.get (List.getElem?_eq_getElem l1)
      obtain ⟨v, hv, rv⟩ := r2.get (List.getElem?_eq_getElem l2)
      rw [f2] at hu
      rw [f3] at hv
      cases hu
      cases hv
      have q1 : (xs.zip ys)[j].1 = xs[j] := by simp
      have q2 : (xs.zip ys)[j].2 = ys[j] := by simp
      exact ⟨by show 2 ≤ sizeLine; decide, [x1, x2], .cons (by rw [q1]; exact ru) (.cons (by rw [q2]; exact rv) .nil), ⟨_, f1, rfl, _, rfl⟩⟩
    · by_cases hb2 : b = S
      · rw [hb2] at q ⊢
        rw [eS] at q
        cases q
        refine ⟨by rw [List.length_map, hl]; exact hz, acc.toList, c, by rw [hacc]; exact LiI.vals_refs as, ?_⟩
        rw [Array.toArray_toList]
        exact hS
      · rw [off b hb hb2] at q
        exact (I.hok b u q).stay (fun d v _ y => hk d v y) (fun d y => kp d _ y) fun d xs y => kp d _ y
end
section
variable {X : Cx} {e1 e2 : Expr} {ta : TA} {p p2 pos pos2 : Pos}
theorem zl_low {n : Nat} {a b : Addr} (ha : a < n) (hb : b < n) : ZLow (n + 4) (n + 2) (n + 3) n (n + 1) [n, a] [n + 1, b] (n + 5) := by
  have ha : a < n + 5 := Nat.lt_of_lt_of_le ha (Nat.le_add_right _ _)
  have hb : b < n + 5 := Nat.lt_of_lt_of_le hb (Nat.le_add_right _ _)
  refine ⟨?_, ?_, ?_, ?_, ?_, fun c hc => ?_, fun c hc => ?_⟩
  · exact Nat.lt_succ_self _
  · exact Nat.add_lt_add_left (by decide) n
  · exact Nat.add_lt_add_left (by decide) n
  · exact Nat.lt_add_of_pos_right (by decide)
  · exact Nat.add_lt_add_left (by decide) n
  · rcases List.mem_cons.mp hc with q | q
    · rw [q]; exact Nat.lt_add_of_pos_right (by decide)
    · rw [List.mem_singleton.mp q]; exact ha
  · rcases List.mem_cons.mp hc with q | q
    · rw [q]; exact Nat.add_lt_add_left (by decide) n
    · rw [List.mem_singleton.mp q]; exact hb
theorem zl_sep {n : Nat} {a b : Addr} (ha : a < n) (hb : b < n) : ZipSep2 (n + 4) (n + 2) (n + 3) n (n + 1) [n, a] [n + 1, b] := by
  have ha' : a ≠ n := Nat.ne_of_lt ha
  have ne : ∀ i j : Nat, i ≠ j → n + i ≠ n + j := fun i j h e => h (Nat.add_left_cancel e)
  have na : ∀ i, n + i ≠ a := fun i e => by have : a < n + i := Nat.lt_of_lt_of_le ha (Nat.le_add_right _ _); rw [e] at this; exact Nat.lt_irrefl _ this
  have nb : ∀ i, n + i ≠ b := fun i e => by have : b < n + i := Nat.lt_of_lt_of_le hb (Nat.le_add_right _ _); rw [e] at this; exact Nat.lt_irrefl _ this
  have n0 : ∀ i : Nat, 0 ≠ i → n + i ≠ n := fun i h e => ne i 0 (Ne.symm h) e
  have not2 : ∀ {x y z : Addr}, x ≠ y → x ≠ z → x ∉ [y, z] := fun h1 h2 q => by
    rcases List.mem_cons.mp q with q | q
    · exact h1 q
    · exact h2 (List.mem_singleton.mp q)
  refine ⟨ne _ _ (by decide), ne _ _ (by decide), ne _ _ (by decide), n0 _ (by decide), List.mem_cons_self, not2 (n0 _ (by decide)) (na _), not2 (n0 _ (by decide)) (na _), ne _ _ (by decide), List.mem_cons_self, not2 (ne _ _ (by decide)) (nb _), not2 (ne _ _ (by decide)) (nb _), ?_, ?_⟩
  · exact not2 (Ne.symm (n0 _ (by decide))) (nb 0)
  · exact not2 (n0 _ (by decide)) (na 1)
/-- list(zip(e1, e2)) -/
theorem pe_listZip (hc : X.calm = true) (ha : PA X [e1, e2] ta) (hg : Gl X "list") (hm : X.mg "list" = none) (hg2 : Gl X "zip") (hm2 : X.mg "zip" = none)
    (hs1 : starEach [.Call (.Name "zip" p2) [e1, e2] [] pos2] X.env = (false, eval (.Call (.Name "zip" p2) [e1, e2] [] pos2) X.env) :: starEach [] X.env)
    (hs : starEach [e1, e2] X.env = (false, eval e1 X.env) :: starEach [e2] X.env) (hpl : (backTo pos2 (starEach [e2] X.env)).any (·.1) = false) :
    PE X (.Call (.Name "list" p) [.Call (.Name "zip" p2) [e1, e2] [] pos2] [] pos) (tCB (rZipL X.K) ta) := by
  constructor
  intro pins s σ H Q I hq
  refine wpAny_Call_Name_kw (ld_blt I hg hm (by decide +kernel : bootBuiltins "list" = some (.type "list")) (PyProof.Rows.callWith_type1 ?_ hs1 rfl))
  rw [hs1]
  show wpAny _ _ (spliced ((false, eval (.Call (.Name "zip" p2) [e1, e2] [] pos2) X.env) :: backTo pos (starEach [] X.env))) _ _ s
  refine Calls.spliced_cons (wpAny_Call_Name_kw (ld_blt I hg2 hm2 PyProof.Rows.boot_zip (PyProof.Rows.callWith_type1 (thn (ha.run pos2 pins s σ H _ I hq) fun us s1 ⟨vs, H1, I1, r1, q1⟩ => ?_) hs hpl)))
  obtain ⟨a, b, xs, ys, rfl, hk, q⟩ := q1
  obtain ⟨u, v, rfl, ru, rv⟩ := vals2 r1
  obtain rfl : u = Value.ref a := ru
  obtain rfl : v = Value.ref b := rv
  have hh := I1.ok.hd hc
  have stop : ∀ {us ws : List Value} (h1 : Heap) (tk1 : Nat), Vals xs us → Vals ys ws → (∀ c o, s1.heap.get? c = some o → h1.get? c = some o) → h1.objs.size = s1.heap.objs.size + 5 → xs.length ≤ sizeLine →
      ∀ h' tk' as' acc' c', (∀ b o, b ≠ s1.heap.objs.size + 4 → b ≠ s1.heap.objs.size + 3 → b ≠ s1.heap.objs.size → b ≠ s1.heap.objs.size + 1 → h1.get? b = some o → h'.get? b = some o) → h'.get? h1.objs.size = some (ListObj acc' c') → acc'.toList = as'.map Value.ref →
        ZPairs (fun i v => us[i]? = some v) (fun i v => ws[i]? = some v) h1.objs.size h' as' → as'.length = min us.length ws.length → EP X pins σ Q (.ref h1.objs.size) { s1 with heap := h', toks := tk' } := by
    intro us ws h1 tk1 ra rb k0 hsz hz h' tk' as' acc' c' k e1 e2 e3 e4
    have low : ∀ c o, s1.heap.get? c = some o → ∀ i, c ≠ s1.heap.objs.size + i := fun c o e i => Nat.ne_of_lt (Nat.lt_of_lt_of_le (Heap.lt_size e) (Nat.le_add_right _ _))
    obtain ⟨H', g1, g2, g3, g4, g5, g6, J⟩ := zip_laid (tk := tk') I1 (by rw [List.length_zip]; omega) ra rb (by rw [hsz]; exact Nat.le_add_right _ _) (fun c o e => k c o (low c o e 4) (low c o e 3) (low c o e 0) (low c o e 1) (k0 c o e)) e1 (by rw [e4, List.length_zip, ra.length, rb.length]) e3 e2
    exact ⟨.ref h1.objs.size, H', J, rfl, q H' _ as' g1 g2 g3 g4 g5 (by rw [e4, List.length_zip, ra.length, rb.length]) g6⟩
  rcases hk with ⟨ka, kb⟩ | ⟨ka, kb⟩
  · obtain ⟨us, ra, pa, za⟩ := I1.list ka
    obtain ⟨ws, rb, pb, zb⟩ := I1.list kb
    have la : a < s1.heap.objs.size := by obtain ⟨o, _, e, _⟩ := pa; exact Heap.lt_size e
    have lb : b < s1.heap.objs.size := by obtain ⟨o, _, e, _⟩ := pb; exact Heap.lt_size e
    refine call_zip_2 pa.isList pb.isList fun h1 z1 z2 z3 z4 z5 hsz k0 => Calls.spliced_nil ?_
    have D1 := Draws.list (prog := X.prog) (w := X.w) (A := X.A.in1.in1.in1) hh s1.heap.objs.size a (Nat.ne_of_lt la) us.toArray
    have D2 := Draws.list (prog := X.prog) (w := X.w) (A := X.A.in1.in1.in1) hh (s1.heap.objs.size + 1) b (Nat.ne_of_lt (Nat.lt_succ_of_lt lb)) ws.toArray
    have Lw := zl_low la lb
    rw [← hsz] at Lw
    refine zl_call (s0 := s1) (h := h1) (tk := s1.toks) (zl_sep la lb) Lw D1 D2 (by simp; have := ra.length; omega) ⟨z2, ⟨z4, pa.isList.at fun o e => k0 _ _ e⟩, ⟨z5, pb.isList.at fun o e => k0 _ _ e⟩, .inl ⟨rfl, z1, _, _, z3⟩⟩ fun h' tk' as' acc' c' k e1 e2 e3 e4 => ?_
    exact stop h1 s1.toks ra rb k0 hsz za h' tk' as' acc' c' k e1 e2 ⟨e3.above, e3.rise, fun j t e => by simpa using e3.pairs j t e⟩ (by simpa using e4)
  · obtain ⟨us, ra, pa, za⟩ := I1.tuple ka
    obtain ⟨ws, rb, pb, zb⟩ := I1.tuple kb
    have ta : s1.heap.IsTuple a us.toArray := pa
    have tb : s1.heap.IsTuple b ws.toArray := pb
    have la : a < s1.heap.objs.size := by obtain ⟨o, e, _⟩ := pa; exact Heap.lt_size e
    have lb : b < s1.heap.objs.size := by obtain ⟨o, e, _⟩ := pb; exact Heap.lt_size e
    refine RZ.call_zipT ta tb fun h1 z1 z2 z3 z4 z5 hsz k0 => Calls.spliced_nil ?_
    have D1 := Draws.tuple (prog := X.prog) (w := X.w) (A := X.A.in1.in1.in1) hh s1.heap.objs.size a (Nat.ne_of_lt la) us.toArray
    have D2 := Draws.tuple (prog := X.prog) (w := X.w) (A := X.A.in1.in1.in1) hh (s1.heap.objs.size + 1) b (Nat.ne_of_lt (Nat.lt_succ_of_lt lb)) ws.toArray
    have Lw := zl_low la lb
    rw [← hsz] at Lw
    refine zl_call (s0 := s1) (h := h1) (tk := s1.toks) (zl_sep la lb) Lw D1 D2 (by simp; have := ra.length; omega) ⟨z2, ⟨z4, ta.at fun o e => k0 _ _ e⟩, ⟨z5, tb.at fun o e => k0 _ _ e⟩, .inl ⟨rfl, z1, _, _, z3⟩⟩ fun h' tk' as' acc' c' k e1 e2 e3 e4 => ?_
    exact stop h1 s1.toks ra rb k0 hsz za h' tk' as' acc' c' k e1 e2 ⟨e3.above, e3.rise, fun j t e => by simpa using e3.pairs j t e⟩ (by simpa using e4)
end

section
variable {K : PySem.W.Frag} {H H' : Hp} {ρ : RS} {M : MS} {p : Addr} {vs : List V}
theorem Ext.made (k : ∀ b o, H b = some o → H' b = some o) (hp : H p = none) : Ext H ρ H' ⟨ρ.ids, p :: ρ.z⟩ :=
  ⟨⟨[], by simp⟩, fun a ha => by
    rcases List.mem_append.mp ha with h | h
    · exact .inl (List.mem_append_left _ h)
    · rcases List.mem_cons.mp h with h | h
      · exact .inr (h ▸ hp)
      · exact .inl (List.mem_append_right _ h), fun a u e _ => .inl (k a u e)⟩
theorem HR.made {o : HO} (hr : HR K H ρ M) (k : ∀ b o, H b = some o → H' b = some o) (hp : H p = none) (h1 : H' p = some o) (hb : Bx (some o)) : HR K H' ⟨ρ.ids, p :: ρ.z⟩ M := by
  have hn := hr.fresh hp
  have nd : (ρ.ids ++ p :: ρ.z).Nodup := (List.perm_middle.nodup_iff).mpr (List.nodup_cons.mpr ⟨hn, hr.nd⟩)
  have same : ∀ a ∈ ρ.all, H' a = H a := fun a ha => by
    cases q : H a with
    | none => exact absurd q (hr.nn ha)
    | some o => exact k a o q
  refine ⟨nd, hr.len, fun n ob e a q => (hr.at_ n ob e a q).mono (Ext.made k hp) hr (same a (List.mem_append_left _ (List.mem_of_getElem? q))), fun a ha => ?_⟩
  rcases List.mem_cons.mp ha with h | h
  · rw [h, h1]; exact hb
  · rw [same a (List.mem_append_right _ h)]; exact hr.zl a h
theorem PostN.made {g : GW} {σ : L2.St} {Q : VK} {ds : List D} (h : PostN g σ H ρ Q (.ok ds M)) (hr : HR g.K H ρ M) (k : ∀ b o, H b = some o → H' b = some o) (hp : H p = none) (h1 : H' p = some (.lst vs)) (r : Rels g.K H' ⟨ρ.ids, p :: ρ.z⟩ ds vs) : Q (.ref p) H' :=
  h p vs H' ρ.ids (Step.ext hr k) hp (hr.made k hp h1 trivial) h1 r
end
def pairD (p : D × D) : D := .tup [p.1, p.2]
def bZip (xs : List D) (M : MS) : Option (List D) := match xs with
  | [x, y] => match lsOf M x, lsOf M y with
    | some us, some vs => some ((us.zip vs).map pairD)
    | _, _ => match tpOf x, tpOf y with
      | some us, some vs => some ((us.zip vs).map pairD)
      | _, _ => none
  | _ => none
section
variable {X : Cx} {g : GW} {e1 e2 : Expr} {fs : Fx (List D)} {p p2 pos pos2 : Pos}
theorem rels_pairs {K : PySem.W.Frag} {H H' : Hp} {ρ ρ' : RS} {M : MS} (ex : Ext H ρ H' ρ') (hr : HR K H ρ M) : ∀ {us vs : List D} {xs ys : List V} {ts : List Addr}, Rels K H ρ us xs → Rels K H ρ vs ys → ts.length = (xs.zip ys).length → (∀ (j : Nat) (t : Addr) (q : V × V), ts[j]? = some t → (xs.zip ys)[j]? = some q → H' t = some (.tup [q.1, q.2])) →
    Rels K H' ρ' ((us.zip vs).map pairD) (ts.map V.ref)
  | [], vs, xs, ys, ts, r1, r2, hl, ht => by
    obtain rfl : xs = [] := r1
    obtain rfl : ts = [] := List.eq_nil_of_length_eq_zero (by simpa using hl)
    exact rfl
  | u :: us, [], xs, ys, ts, r1, r2, hl, ht => by
    obtain rfl : ys = [] := r2
    obtain rfl : ts = [] := List.eq_nil_of_length_eq_zero (by simpa using hl)
    exact rfl
  | u :: us, v :: vs, xs, ys, ts, r1, r2, hl, ht => by
    obtain ⟨x, xs', rfl, a1, a2⟩ := r1
    obtain ⟨y, ys', rfl, b1, b2⟩ := r2
    cases ts with
    | nil => simp at hl
    | cons t ts =>
      have h0 := ht 0 t (x, y) rfl rfl
      exact ⟨.ref t, ts.map V.ref, rfl, ⟨t, [x, y], rfl, h0, Rels.cons (a1.mono ex hr _ _) (Rels.one (b1.mono ex hr _ _))⟩, rels_pairs ex hr a2 b2 (by simpa using hl) fun j t' q e1 e2 => ht (j + 1) t' q (by simpa using e1) (by simpa using e2)⟩
theorem n_listZip (hk : g.K = X.K) (hc : X.calm = true) (ha : PA X [e1, e2] (tA g fs)) (hg : Gl X "list") (hm : X.mg "list" = none) (hg2 : Gl X "zip") (hm2 : X.mg "zip" = none)
    (hs1 : starEach [.Call (.Name "zip" p2) [e1, e2] [] pos2] X.env = (false, eval (.Call (.Name "zip" p2) [e1, e2] [] pos2) X.env) :: starEach [] X.env)
    (hs : starEach [e1, e2] X.env = (false, eval e1 X.env) :: starEach [e2] X.env) (hpl : (backTo pos2 (starEach [e2] X.env)).any (·.1) = false) :
    PE X (.Call (.Name "list" p) [.Call (.Name "zip" p2) [e1, e2] [] pos2] [] pos) (tN g (nN bZip fs)) := by
  refine PE.imp (pe_listZip hc ha hg hm hg2 hm2 hs1 hs hpl) fun σ H Q h => ?_
  rw [← hk]
  obtain ⟨ρ, M, η, hr, er, h⟩ := h
  refine ⟨ρ, M, η, hr, er, h.bind.mono fun xs M1 H1 ρ1 s1 hr1 h1 us ru => ?_⟩
  cases hz : bZip xs M1 with
  | none => rw [hz] at h1; exact h1.elim
  | some zs =>
    rw [hz] at h1
    unfold bZip at hz
    split at hz
    · rename_i x y
      obtain ⟨u, v, rfl, rx, ry⟩ := rels2 ru
      split at hz
      · rename_i ds es hx hy
        cases hz
        obtain ⟨a, ws, rfl, qa, ra⟩ := ls_rel hr1 hx rx
        obtain ⟨b, ys, rfl, qb, rb⟩ := ls_rel hr1 hy ry
        exact ⟨a, b, ws, ys, rfl, .inl ⟨qa, qb⟩, fun H' p ts k hp _ _ hl hlen ht => PostN.made h1 hr1 k hp hl (rels_pairs (Ext.made k hp) hr1 ra rb hlen ht)⟩
      · split at hz
        · rename_i ds es hx hy
          cases hz
          obtain ⟨a, ws, rfl, qa, ra⟩ := tp_rel hx rx
          obtain ⟨b, ys, rfl, qb, rb⟩ := tp_rel hy ry
          exact ⟨a, b, ws, ys, rfl, .inr ⟨qa, qb⟩, fun H' p ts k hp _ _ hl hlen ht => PostN.made h1 hr1 k hp hl (rels_pairs (Ext.made k hp) hr1 ra rb hlen ht)⟩
        · cases hz
    · cases hz
end
end NV
end
section
set_option Elab.async false
set_option linter.all false
set_option maxRecDepth 100000
set_option maxHeartbeats 4000000
set_option autoImplicit false
namespace NV
open PySem PySem.Spec L2

/-! ### the rules by their operators -/
section
variable {X : Cx} {g : GW} {a b c e : Expr} {es rest : List Expr} {f h fa fb fc : Fx D} {fs : Fx (List D)} {n m : Fx (List D)} {t u : Fx Bool} {pos p : Pos} {x : Str} {K : PySem.W.Frag}
theorem d_int {i : Int} {j : Nat} : PE X (.Constant (.int i) j pos) (tE g (fC (.int i))) := d_c pe_int fun _ _ => rfl
theorem d_str {s : Str} {j : Nat} (ho : SOk s) : PE X (.Constant (.str s) j pos) (tE g (fC (.str s))) := d_c pe_str fun _ _ => ⟨rfl, ho⟩
theorem d_bin {op : Operator} {φ : D → D → MS → Option D} {r : R2} (ho : OpR X (binaryOp op) r) (hop : Op2 g.K φ r) (ha : PE X a (tE g fa)) (hb : PE X b (tE g fb)) : PE X (.BinOp a op b pos) (tE g (f2 φ fa fb)) :=
  PE.imp (pe_op ho ha hb) fun σ H Q q => t_op2 hop q
theorem n_bin {op : Operator} {φ : D → D → MS → Option (List D)} {r : R2} (ho : OpR X (binaryOp op) r) (hop : Op2L g.K φ r) (ha : PE X a (tE g fa)) (hb : PE X b (tE g fb)) : PE X (.BinOp a op b pos) (tN g (n2 φ fa fb)) :=
  PE.imp (pe_op ho ha hb) fun σ H Q q => t_op2L hop q
theorem d_add (hk : g.K = X.K) (ha : PE X a (tE g fa)) (hb : PE X b (tE g fb)) : PE X (.BinOp a .Add b pos) (tE g (f2 aAdd fa fb)) := d_bin op_addA (by rw [← hk]; exact o_add) ha hb
theorem d_sub (ha : PE X a (tE g fa)) (hb : PE X b (tE g fb)) : PE X (.BinOp a .Sub b pos) (tE g (f2 aSub fa fb)) := d_bin op_sub o_sub ha hb
theorem d_mul (ha : PE X a (tE g fa)) (hb : PE X b (tE g fb)) : PE X (.BinOp a .Mult b pos) (tE g (f2 aMul fa fb)) := d_bin op_mulA o_mul ha hb
theorem d_fdiv (ha : PE X a (tE g fa)) (hb : PE X b (tE g fb)) : PE X (.BinOp a .FloorDiv b pos) (tE g (f2 aFdiv fa fb)) := d_bin op_fdivA o_fdiv ha hb
theorem d_mod (ha : PE X a (tE g fa)) (hb : PE X b (tE g fb)) : PE X (.BinOp a .Mod b pos) (tE g (f2 aMod fa fb)) := d_bin op_modN o_mod ha hb
theorem d_pow (ha : PE X a (tE g fa)) (hb : PE X b (tE g fb)) : PE X (.BinOp a .Pow b pos) (tE g (f2 aPow fa fb)) := d_bin op_pow o_pow ha hb
theorem n_add (ha : PE X a (tE g fa)) (hb : PE X b (tE g fb)) : PE X (.BinOp a .Add b pos) (tN g (n2 aCat fa fb)) := n_bin op_cat o_cat ha hb
theorem n_mul (ha : PE X a (tE g fa)) (hb : PE X b (tE g fb)) : PE X (.BinOp a .Mult b pos) (tN g (n2 aRep fa fb)) := n_bin op_rep o_rep ha hb
theorem d_neg (ha : PE X a (tE g fa)) : PE X (.UnaryOp .USub a pos) (tE g (f1 aNeg fa)) := PE.imp (pe_un un_neg ha) fun σ H Q q => t_op1 o_neg q
theorem d_cmpG {op : CmpOp} {φ : D → D → MS → Option D} {r : R2} (ho : OpR X (compareOp op) r) (hop : Op2 g.K φ r) (ha : PE X a (tE g fa)) (hb : PE X b (tE g fb)) (hm : behindInMarks op b = false) : PE X (.Compare a [op] [b] pos) (tE g (f2 φ fa fb)) :=
  PE.imp (pe_cmpR ho ha hb hm) fun σ H Q q => t_op2 hop q
theorem dt_cmpG {op : CmpOp} {φ : D → D → MS → Option D} {r : R2} (ho : OpR X (compareOp op) r) (hop : Op2 g.K φ r) (ha : PE X a (tE g fa)) (hb : PE X b (tE g fb)) (hm : behindInMarks op b = false) : PT X (.Compare a [op] [b] pos) (tT g (tBl (f2 φ fa fb))) :=
  PT.imp (pt_cmpR ho ha hb hm) fun σ H Q q => t_op2 hop (tb_of q)
theorem d_chainG {op op' : CmpOp} {φ ψ : D → D → MS → Option D} {r r' : R2} (ho : OpR X (compareOp op) r) (ho' : OpR X (compareOp op') r') (hop : Op2 g.K φ r) (hop' : Op2 g.K ψ r') (ha : PE X a (tE g fa)) (hb : PE X b (tE g fb)) (hc : PE X c (tE g fc)) (hm : lastMarks [op, op'] [b, c] = false) :
    PE X (.Compare a [op, op'] [b, c] pos) (tE g (fChain φ ψ fa fb fc)) := PE.imp (pe_chain ho ho' ha hb hc hm) fun σ H Q q => t_chain hop hop' q
theorem dt_chainG {op op' : CmpOp} {φ ψ : D → D → MS → Option D} {r r' : R2} (ho : OpR X (compareOp op) r) (ho' : OpR X (compareOp op') r') (hop : Op2 g.K φ r) (hop' : Op2 g.K ψ r') (ha : PE X a (tE g fa)) (hb : PE X b (tE g fb)) (hc : PE X c (tE g fc)) (hm : lastMarks [op, op'] [b, c] = false) :
    PT X (.Compare a [op, op'] [b, c] pos) (tT g (tBl (fChain φ ψ fa fb fc))) := PT.imp (pt_chain ho ho' ha hb hc hm) fun σ H Q q => t_chain hop hop' (tb_of q)
/-- the operators of comparisons: their rules -/
structure CmpK (X : Cx) (K : PySem.W.Frag) (op : CmpOp) (φ : D → D → MS → Option D) : Prop where
  ex : ∃ r : R2, OpR X (compareOp op) r ∧ Op2 K φ r
def lexL (p : Bool) (a b : List Nat) : Bool := if p = true then decide (a < b) else !decide (b < a)
theorem k_eq (hk : K = X.K) (hu : X.A.units + 65 < cLine) : CmpK X K .Eq aEq := ⟨_, op_eqM (Nat.lt_of_succ_lt hu), by rw [hk]; exact o_eq⟩
theorem k_ne (hk : K = X.K) (hu : X.A.units + 65 < cLine) : CmpK X K .NotEq aNe := ⟨_, op_neM (Nat.lt_of_succ_lt hu), by rw [hk]; exact o_ne⟩
theorem k_lt : CmpK X K .Lt (aCmp (fun i j => decide (i < j)) fun i j => decide (i < j)) := ⟨_, op_ltA, o_cmp⟩
theorem k_le : CmpK X K .LtE (aCmp (fun i j => decide (i ≤ j)) fun i j => !decide (j < i)) := ⟨_, op_leA, o_cmp⟩
theorem k_gt : CmpK X K .Gt (aCmp (fun i j => decide (j < i)) fun i j => decide (j < i)) := ⟨_, op_gtA, o_cmp⟩
theorem k_ge : CmpK X K .GtE (aCmp (fun i j => decide (j ≤ i)) fun i j => !decide (i < j)) := ⟨_, op_geA, o_cmp⟩
theorem k_is : CmpK X K .Is (aIs fun b => b) := ⟨_, op_isM, o_is⟩
theorem k_isnot : CmpK X K .IsNot (aIs fun b => !b) := ⟨_, op_isNotM, o_is⟩
theorem k_in (hk : K = X.K) (hu : X.A.units + 65 < cLine) : CmpK X K .In (aIn fun b => b) := ⟨_, op_inM hu, by rw [hk]; exact o_in⟩
theorem k_notin (hk : K = X.K) (hu : X.A.units + 65 < cLine) : CmpK X K .NotIn (aIn fun b => !b) := ⟨_, op_notInM hu, by rw [hk]; exact o_in⟩
theorem d_cmp {op : CmpOp} {φ : D → D → MS → Option D} (k : CmpK X g.K op φ) (ha : PE X a (tE g fa)) (hb : PE X b (tE g fb)) (hm : behindInMarks op b = false) : PE X (.Compare a [op] [b] pos) (tE g (f2 φ fa fb)) := let ⟨_, h1, h2⟩ := k.ex; d_cmpG h1 h2 ha hb hm
theorem dt_cmp {op : CmpOp} {φ : D → D → MS → Option D} (k : CmpK X g.K op φ) (ha : PE X a (tE g fa)) (hb : PE X b (tE g fb)) (hm : behindInMarks op b = false) : PT X (.Compare a [op] [b] pos) (tT g (tBl (f2 φ fa fb))) := let ⟨_, h1, h2⟩ := k.ex; dt_cmpG h1 h2 ha hb hm
theorem d_chain {op op' : CmpOp} {φ ψ : D → D → MS → Option D} (k : CmpK X g.K op φ) (k' : CmpK X g.K op' ψ) (ha : PE X a (tE g fa)) (hb : PE X b (tE g fb)) (hc : PE X c (tE g fc)) (hm : lastMarks [op, op'] [b, c] = false) :
    PE X (.Compare a [op, op'] [b, c] pos) (tE g (fChain φ ψ fa fb fc)) := let ⟨_, h1, h2⟩ := k.ex; let ⟨_, h3, h4⟩ := k'.ex; d_chainG h1 h3 h2 h4 ha hb hc hm
theorem dt_chain {op op' : CmpOp} {φ ψ : D → D → MS → Option D} (k : CmpK X g.K op φ) (k' : CmpK X g.K op' ψ) (ha : PE X a (tE g fa)) (hb : PE X b (tE g fb)) (hc : PE X c (tE g fc)) (hm : lastMarks [op, op'] [b, c] = false) :
    PT X (.Compare a [op, op'] [b, c] pos) (tT g (tBl (fChain φ ψ fa fb fc))) := let ⟨_, h1, h2⟩ := k.ex; let ⟨_, h3, h4⟩ := k'.ex; dt_chainG h1 h3 h2 h4 ha hb hc hm
theorem d_one {op : BoolOp} (ha : PE X a (tE g f)) : PE X (.BoolOp op [a] pos) (tE g f) := pe_one ha
theorem dw_and1 (ha : PT X a (tT g t)) : PW X (.BoolOp .And [a] pos) (tT g t) := pw_and1 ha
theorem dw_or1 (ha : PT X a (tT g t)) : PW X (.BoolOp .Or [a] pos) (tT g t) := pw_or1 ha
theorem dt_w (h : PW X a (tT g t)) : PT X a (tT g t) := ⟨fun pins s σ H Q I q => h.run _ pins s σ H Q I q⟩
theorem d_callB {id : String} {φ : List D → MS → Option D} {r : List V → Hp → VK → Prop} (hc : CallR X (.builtin id) r) (hop : OpN g.K φ r) (hg : Gl X x) (hm : X.mg x = none) (hv : bootBuiltins x = some (.builtin id)) (ha : PA X (e :: es) (tA g fs)) (hn : x ≠ "__name__") (hdb : (x == ("__debug__" : Str)) = false)
    (he : starEach (e :: es) X.env = (false, eval e X.env) :: starEach es X.env) (hpl : (backTo pos (starEach es X.env)).any (·.1) = false) : PE X (.Call (.Name x p) (e :: es) [] pos) (tE g (fN φ fs)) :=
  PE.imp (pe_callB hc hg hm hv ha hn hdb he hpl) fun σ H Q q => t_opN hop q
theorem d_callTy {T : String} {φ : List D → MS → Option D} {r : List V → Hp → VK → Prop} (hc : CallR X (.type T) r) (hop : OpN g.K φ r) (hg : Gl X x) (hm : X.mg x = none) (hv : bootBuiltins x = some (.type T)) (ha : PA X (e :: es) (tA g fs)) (hn : x ≠ "__name__") (hdb : (x == ("__debug__" : Str)) = false)
    (he : starEach (e :: es) X.env = (false, eval e X.env) :: starEach es X.env) (hpl : (backTo pos (starEach es X.env)).any (·.1) = false) : PE X (.Call (.Name x p) (e :: es) [] pos) (tE g (fN φ fs)) :=
  PE.imp (pe_callTy hc hg hm hv ha hn hdb he hpl) fun σ H Q q => t_opN hop q
theorem n_callB {id : String} {φ : List D → MS → Option (List D)} {r : List V → Hp → VK → Prop} (hc : CallR X (.builtin id) r) (hop : OpL g.K φ r) (hg : Gl X x) (hm : X.mg x = none) (hv : bootBuiltins x = some (.builtin id)) (ha : PA X (e :: es) (tA g fs)) (hn : x ≠ "__name__") (hdb : (x == ("__debug__" : Str)) = false)
    (he : starEach (e :: es) X.env = (false, eval e X.env) :: starEach es X.env) (hpl : (backTo pos (starEach es X.env)).any (·.1) = false) : PE X (.Call (.Name x p) (e :: es) [] pos) (tN g (nN φ fs)) :=
  PE.imp (pe_callB hc hg hm hv ha hn hdb he hpl) fun σ H Q q => t_opL hop q
theorem n_callTy {T : String} {φ : List D → MS → Option (List D)} {r : List V → Hp → VK → Prop} (hc : CallR X (.type T) r) (hop : OpL g.K φ r) (hg : Gl X x) (hm : X.mg x = none) (hv : bootBuiltins x = some (.type T)) (ha : PA X (e :: es) (tA g fs)) (hn : x ≠ "__name__") (hdb : (x == ("__debug__" : Str)) = false)
    (he : starEach (e :: es) X.env = (false, eval e X.env) :: starEach es X.env) (hpl : (backTo pos (starEach es X.env)).any (·.1) = false) : PE X (.Call (.Name x p) (e :: es) [] pos) (tN g (nN φ fs)) :=
  PE.imp (pe_callTy hc hg hm hv ha hn hdb he hpl) fun σ H Q q => t_opL hop q
theorem d_bltn {T : String} (hg : Gl X x) (hm : X.mg x = none) (hv : bootBuiltins x = some (.type T)) (hn : x ≠ "__name__") (hd : (x == ("__debug__" : Str)) = false) : PE X (.Name x pos) (tE g (fC (.ty T))) := d_c (pe_bltn hg hm hv (v := .ty T) rfl hn hd) fun _ _ => rfl
theorem d_gint {i : Int} (hg : Gl X x) (hm : ∃ t, X.mg x = some (.int i t)) (hd : (x == ("__debug__" : Str)) = false) : PE X (.Name x pos) (tE g (fC (.int i))) := let ⟨t, hm⟩ := hm; d_c (pe_glob hg hm (v := .int i) ⟨t, rfl⟩ hd) fun _ _ => rfl
theorem d_gstr {s : Str} (hg : Gl X x) (hm : ∃ t, X.mg x = some (.str s t)) (ho : SOk s) (hd : (x == ("__debug__" : Str)) = false) : PE X (.Name x pos) (tE g (fC (.str s))) := let ⟨t, hm⟩ := hm; d_c (pe_glob hg hm (v := .str s) ⟨t, rfl⟩ hd) fun _ _ => ⟨rfl, ho⟩
/-- a tuple of the module's -/
theorem d_gtup {ds : List D} {a : Addr} {vs : List V} (hg : Gl X x) (hm : X.mg x = some (.ref a)) (ht : ∀ H, SqT g.K H a vs) (hr : ∀ H ρ, Rels g.K H ρ ds vs) (hd : (x == ("__debug__" : Str)) = false) : PE X (.Name x pos) (tE g (fC (.frt ds))) :=
  d_c (pe_glob hg hm (v := .ref a) rfl hd) fun H ρ => ⟨a, vs, rfl, ht H, hr H ρ⟩
theorem d_bm {o : Expr} {T id : String} {name : Str} {apos cpos : Pos} {r : V → List V → Hp → VK → Prop} {φ : D → List D → MS → Option (D × MS)} {fo : Fx D} (hk : g.K = X.K) (pa : PlainAttrs T) (slot : Slot T name id) (hty : typeOf (.builtin id) = pure (.type "method_descriptor")) (hm : MtR X id r) (hop : OpW g.K φ r)
    (ho : PE X o (tE g fo)) (ha : PA X (e :: es) (tA g fs)) (hbase : attributeBase o name X.env (eval o X.env) = eval o X.env)
    (hfew : ((backTo cpos (starEach (e :: es) X.env)).all (fun x => !x.1) && (backToKw cpos (keywordEach [] X.env)).all (fun x => x.1.isSome)
      && decide ((e :: es).length + ([] : List Keyword).length + (if ([] : List Keyword).isEmpty then 0 else 1) < 30)) = true)
    (hline : (apos.endLine == cpos.line) = true) (hs : starEach (e :: es) X.env = (false, eval e X.env) :: starEach es X.env) (hplain : (backTo cpos (starEach es X.env)).any (·.1) = false) :
    PE X (.Call (.Attribute o name apos) (e :: es) [] cpos) (tE g (fM T φ fo fs)) :=
  PE.imp (pe_bm pa slot hty hm ho ha hbase hfew hline hs hplain) fun σ H Q q => by rw [← hk]; exact t_bm hop q
theorem d_bm0 {o : Expr} {T id : String} {name : Str} {apos cpos : Pos} {r : V → List V → Hp → VK → Prop} {φ : D → List D → MS → Option (D × MS)} {fo : Fx D} (hk : g.K = X.K) (pa : PlainAttrs T) (slot : Slot T name id) (hty : typeOf (.builtin id) = pure (.type "method_descriptor")) (hm : MtR X id r) (hop : OpW g.K φ r)
    (ho : PE X o (tE g fo)) (hbase : attributeBase o name X.env (eval o X.env) = eval o X.env) (hline : (apos.endLine == cpos.line) = true) : PE X (.Call (.Attribute o name apos) [] [] cpos) (tE g (fM T φ fo aNil)) :=
  PE.imp (pe_bm0 pa slot hty hm ho hbase hline) fun σ H Q q => by rw [← hk]; exact t_bm0 hop q
end
end NV
end
section
set_option Elab.async false
set_option linter.all false
set_option maxRecDepth 100000
set_option maxHeartbeats 4000000
set_option autoImplicit false
namespace NV
open PySem PySem.Spec L2

/-! ### new dicts -/
/-- a new object at p, nobody's yet -/
def PostO (g : GW) (σ : L2.St) (H : Hp) (ρ : RS) (Q : VK) : Res MO → Prop
  | .ok o M' => ∀ p H' ids', Step H ρ H' ⟨ids', ρ.z⟩ → H p = none → HR g.K H' ⟨ids', p :: ρ.z⟩ M' → ObR g.K H' ⟨ids', p :: ρ.z⟩ p o → Q (.ref p) H'
  | .exc x M' => ∀ cls dd H' ρ', Step H ρ H' ρ' → HR g.K H' ρ' M' → XR g.K g.cl H' ρ' x cls dd → g.W cls dd σ H'
  | .fail => False
def tO' (g : GW) (f : Fx MO) : TE := fun σ H Q => ∃ ρ M η, HR g.K H ρ M ∧ ER g.K H ρ η σ ∧ PostO g σ H ρ Q (f η M)
/-- nobody changes it any more -/
def frzO : MO → D
  | .lst xs => .lst xs
  | .dcK kvs => .dcK kvs
  | .dcT kvs => .dcT kvs
  | .lkK kvs => .dcK kvs
  | .lkT kvs => .dcT kvs
def oFrz (f : Fx MO) : Fx D := fun η M => bindR (f η M) fun o M1 => .ok (frzO o) M1
def oBox (f : Fx MO) : Fx D := fun η M => bindR (f η M) fun o M1 => .ok (.ref M1.length) (M1 ++ [o])
section
variable {X : Cx} {g : GW} {e : Expr} {f : Fx MO} {H H' : Hp} {ρ : RS} {K : PySem.W.Frag} {M : MS}
theorem rel_frzO {p : Addr} {ids z : List Addr} {o : MO} (hr : HR K H ⟨ids, p :: z⟩ M) (h : ObR K H ⟨ids, p :: z⟩ p o) : Rel K H ⟨ids, z⟩ (frzO o) (.ref p) := by
  have np := hr.pn
  cases o with
  | lst xs => obtain ⟨vs, e, r⟩ := h; exact ⟨p, vs, rfl, ⟨e, np⟩, r.mono Ext.shrink hr _ _⟩
  | dcK kvs => obtain ⟨us, e, r⟩ := h; exact ⟨p, us, rfl, np, .inl e, r.mono Ext.shrink hr _ _⟩
  | dcT kvs => obtain ⟨us, e, r⟩ := h; exact ⟨p, us, rfl, np, .inl e, r.mono Ext.shrink hr _ _⟩
  | lkK kvs => obtain ⟨us, o, e, r⟩ := h; exact ⟨p, us, rfl, np, .inr ⟨o, e⟩, r.mono Ext.shrink hr _ _⟩
  | lkT kvs => obtain ⟨us, o, e, r⟩ := h; exact ⟨p, us, rfl, np, .inr ⟨o, e⟩, r.mono Ext.shrink hr _ _⟩
theorem d_frzO (h : PE X e (tO' g f)) : PE X e (tE g (oFrz f)) := by
  refine PE.imp h fun σ H Q h => ?_
  obtain ⟨ρ, M, η, hr, er, h⟩ := h
  refine ⟨ρ, M, η, hr, er, ?_⟩
  unfold oFrz at h
  cases q : f η M with
  | ok o M1 =>
    rw [q] at h
    exact fun p H' ids' s hp hr' ho => h H' ⟨ids', ρ.z⟩ s hr'.shrink (.ref p) (rel_frzO hr' ho)
  | exc x M1 => rw [q] at h; exact h
  | fail => rw [q] at h; exact h
theorem d_boxO (h : PE X e (tO' g f)) : PE X e (tE g (oBox f)) := by
  refine PE.imp h fun σ H Q h => ?_
  obtain ⟨ρ, M, η, hr, er, h⟩ := h
  refine ⟨ρ, M, η, hr, er, ?_⟩
  unfold oBox at h
  cases q : f η M with
  | ok o M1 =>
    rw [q] at h
    intro p H' ids' s hp hr' ho
    have hl : ids'.length = M1.length := hr'.len
    refine h H' ⟨ids' ++ [p], ρ.z⟩ (s.box hp) (hr'.box ho) (.ref p) ⟨p, rfl, ?_⟩
    show (ids' ++ [p])[M1.length]? = some p
    rw [← hl, List.getElem?_append_right (Nat.le_refl _)]
    simp
  | exc x M1 => rw [q] at h; exact h
  | fail => rw [q] at h; exact h
theorem PostO.from {σ : L2.St} {H1 : Hp} {ρ1 : RS} {Q : VK} {r : Res MO} (h : PostO g σ H ρ Q r) (s : Step H ρ H1 ρ1) (hr : HR g.K H1 ρ1 M) : PostO g σ H1 ρ1 Q r := by
  cases r with
  | ok o M' =>
    intro p H' ids' s' hp hr' ho
    have hz : ρ1.z = ρ.z := s.z
    rw [hz] at s' hr' ho
    exact h p H' ids' (s.trans s' hr) (s.back hr hp) hr' ho
  | exc x M' => exact fun cls dd H' ρ' s' q x => h cls dd H' ρ' (s.trans s' hr) q x
  | fail => exact h
theorem PostO.bind {σ : L2.St} {Q : VK} {α : Type} {r : Res α} {k : α → MS → Res MO} (h : PostO g σ H ρ Q (bindR r k)) : Post g σ H ρ (fun a M1 H1 ρ1 => PostO g σ H1 ρ1 Q (k a M1)) r := by
  cases r with
  | ok a M' => exact fun H' ρ' s q => PostO.from (H := H) (ρ := ρ) h s q
  | exc x M' => exact h
  | fail => exact h
end
/-! {} -/
def oNewK : Fx MO := fun _ M => .ok (.dcK []) M
def oNewT : Fx MO := fun _ M => .ok (.dcT []) M
section
variable {X : Cx} {g : GW} {pos : Pos}
theorem o_newK : PE X (.Dict [] [] pos) (tO' g oNewK) := PE.imp pe_dnewK fun σ H Q ⟨ρ, M, η, hr, er, h⟩ p hp =>
  h p _ ρ.ids (Step.ext hr (keep_new hp)) hp (hr.reserve hp trivial) ⟨[], upd_same, rfl⟩
theorem o_newT : PE X (.Dict [] [] pos) (tO' g oNewT) := PE.imp pe_dnewT fun σ H Q ⟨ρ, M, η, hr, er, h⟩ p hp =>
  h p _ ρ.ids (Step.ext hr (keep_new hp)) hp (hr.reserve hp trivial) ⟨[], upd_same, rfl⟩
end

/-! ### dict comprehensions -/
noncomputable def dcF (gs : List (Nat × List D)) (t : Gx) (c : Fx Bool) (k e : Fx D) (η0 : Nv) : List D → List (Key × D) → MS → Res MO
  | [], acc, M => gIfR gs M (.ok (.dcK acc) M)
  | x :: xs, acc, M => gIfR gs M (thenF (t x η0 M) fun η1 M1 => bindF (c η1 M1) fun b M2 =>
      if b = true then bindF (k η1 M2) fun kd M3 => bindF (e η1 M3) fun y M4 => (match keyD kd with
        | some q => if acc.length < sizeLine then dcF gs t c k e η0 xs (putD acc q y) M4 else .fail
        | none => .fail) else dcF gs t c k e η0 xs acc M2)
noncomputable def oDc (vs : List Nat) (f : Fx Src) (t : Gx) (c : Fx Bool) (k e : Fx D) : Fx MO := fun η M => bindR (f η M) fun s M1 => dcF s.gs t c k e (wipeN η vs) s.xs [] M1
section
variable {g : GW} {σ : L2.St} {H H1 H' : Hp} {ρ ρ1 ρ' : RS} {M : MS} {Q : VK} {α β : Type}
theorem PostO.bindF {r : Res α} {k : α → MS → Res MO} {H0 : Hp} {ρ0 : RS} {σ0 : L2.St} {P : α → MS → Hp → RS → Prop} (h : PostO g σ0 H0 ρ0 Q (NV.bindF r k)) (hN : ∀ a M' H' ρ', Step H ρ H' ρ' → HR g.K H' ρ' M' → PostO g σ0 H0 ρ0 Q (k a M') → P a M' H' ρ') : Post g.nx σ H ρ P r := by
  cases r with
  | ok a M' => exact fun H' ρ' s q => hN a M' H' ρ' s q h
  | exc x M' => exact h.elim
  | fail => exact h.elim
theorem PostO.thenF {r : SRes} {k : Nv → MS → Res MO} {H0 : Hp} {ρ0 : RS} {σ0 : L2.St} {ts : List Nat} {Q' : L2.St → Hp → Prop} (h : PostO g σ0 H0 ρ0 Q (NV.thenF r k)) (hN : ∀ σ' H' ρ' M' η', Step H ρ H' ρ' → HR g.K H' ρ' M' → ER g.K H' ρ' η' σ' → SB ts σ σ' → PostO g σ0 H0 ρ0 Q (k η' M') → Q' σ' H') : PostG g.nx σ ts H ρ Q' r := by
  cases r with
  | nx η' M' => exact fun σ' H' ρ' s q er b => hN σ' H' ρ' M' η' s q er b h
  | _ => exact h.elim
theorem PostO.gIfR {gs : List (Nat × List D)} {r : Res MO} (h : PostO g σ H ρ Q (NV.gIfR gs M r)) : gOk gs M ∧ PostO g σ H ρ Q r := by
  unfold NV.gIfR at h
  split at h
  · exact ⟨by assumption, h⟩
  · exact h.elim
end
section
variable {X : Cx} {g : GW} {f : Fx Src} {t : Gx} {c : Fx Bool} {k e : Fx D} {ts : List Nat}
theorem o_dc {kx vx tg iter : Expr} {ifs : List Expr} {scope : Scope} {own : List (Str × Nat)} {pos : Pos} (hc : X.calm = true) (hN : X.N.Nodup) (hi : PI X tg iter (tI g f)) (ok : BlkOk X.N X.env.scope scope own)
    (hg : ∀ (s : Shared) (H : Hp) (C : Addr) (cl : List (Str × Addr)) (fp : List Addr), PG (X.blk s H scope (compEnvC scope cl C X.env) fp) tg (tG g.nx ts t))
    (ht : ∀ (s : Shared) (H : Hp) (C : Addr) (cl : List (Str × Addr)) (fp : List Addr), PTs (X.blk s H scope (compEnvC scope cl C X.env) fp) ifs (tT g.nx c))
    (hkk : ∀ (s : Shared) (H : Hp) (C : Addr) (cl : List (Str × Addr)) (fp : List Addr), PE (X.blk s H scope (compEnvC scope cl C X.env) fp) kx (tE g.nx k))
    (he : ∀ (s : Shared) (H : Hp) (C : Addr) (cl : List (Str × Addr)) (fp : List Addr), PE (X.blk s H scope (compEnvC scope cl C X.env) fp) vx (tE g.nx e))
    (hs : ∀ x, foldedSetIterable iter X.env x = pure x) (hts : ∀ i ∈ ts, i ∈ own.map (·.2)) :
    PE X (.DictComp kx vx [⟨tg, iter, ifs, 0⟩] scope pos) (tO' g (oDc (own.map (·.2)) f t c k e)) := by
  refine PE.imp (pe_dc hc hN hi ok hg ht hkk he hs) fun σ H Q h => ?_
  generalize own.map (·.2) = vs at *
  obtain ⟨ρ, M, η, hr, er, h⟩ := h
  refine ⟨ρ, M, η, hr, er, h.bind.mono fun s M1 H1 ρ1 s1 hr1 h1 J hJ D hD => ?_⟩
  have er1 : ER g.K H1 ρ1 (wipeN η vs) (wipe σ vs) := (er.mono s1.toExt hr).wipe vs
  refine ⟨fun i m Hc => i + m = s.xs.length ∧ ∃ ids M acc us, Ext H1 ρ1 Hc ⟨ids, D :: ρ1.z⟩ ∧ (∀ a ∈ ρ1.z, Hc a = H1 a) ∧ HR g.K Hc ⟨ids, D :: ρ1.z⟩ M ∧ Hc D = some (.dK us) ∧ RelK g.K Hc ⟨ids, D :: ρ1.z⟩ acc us ∧
    PostO g σ H1 ρ1 Q (dcF s.gs t c k e (wipeN η vs) (s.xs.drop i) acc M), ⟨s.xs.length, by simp, ρ1.ids, M1, [], [], Ext.reserve hD, fun a ha => upd_ne fun z => hr1.fresh hD (List.mem_append_right _ (z ▸ ha)), hr1.reserve hD trivial, upd_same, rfl, by simpa using h1⟩, fun i m Hc w => ?_⟩
  obtain ⟨hm, ids, M2, acc, us, e2, zk2, hr2, hd2, ra, h2⟩ := w
  cases hd : s.xs.drop i with
  | nil =>
    rw [hd] at h2
    obtain ⟨ok, h2⟩ := PostO.gIfR h2
    have hl : i = s.xs.length := by
      have := List.drop_eq_nil_iff.mp hd
      omega
    subst hl
    exact .inl ⟨(hJ Hc _ M2 e2 hr2 ok).1, h2 D Hc ids (e2.toStep rfl zk2) hD hr2 ⟨us, hd2, ra⟩⟩
  | cons x xs =>
    rw [hd] at h2
    obtain ⟨ok, h2⟩ := PostO.gIfR h2
    have hx : s.xs[i]? = some x := by
      have := congrArg (fun l => l[0]?) hd
      simpa [List.getElem?_drop] using this
    have hxs : s.xs.drop (i + 1) = xs := by
      rw [← List.tail_drop, hd]
      rfl
    have hlt : i < s.xs.length := (List.getElem?_eq_some_iff.mp hx).1
    obtain ⟨_, hgo⟩ := hJ Hc _ M2 e2 hr2 ok
    obtain ⟨h3, h4⟩ := hgo i x hx
    refine .inr ⟨h3, fun Hn => ∃ ids M acc us, Ext H1 ρ1 Hn ⟨ids, D :: ρ1.z⟩ ∧ (∀ a ∈ ρ1.z, Hn a = H1 a) ∧ HR g.K Hn ⟨ids, D :: ρ1.z⟩ M ∧ Hn D = some (.dK us) ∧ RelK g.K Hn ⟨ids, D :: ρ1.z⟩ acc us ∧
      PostO g σ H1 ρ1 Q (dcF s.gs t c k e (wipeN η vs) xs acc M), fun Hn n' => ⟨m - 1, by omega, by omega, by rw [hxs]; exact n'⟩, fun v H3 y => ?_⟩
    obtain ⟨k3, rv⟩ := h4 v H3 y
    have s3 : Step Hc ⟨ids, D :: ρ1.z⟩ H3 ⟨ids, D :: ρ1.z⟩ := Step.ext hr2 k3
    have hr3 := hr2.ext k3
    refine ⟨_, M2, wipeN η vs, x, hr3, (er1.mono e2 hr1).mono s3.toExt hr2, rv, ?_⟩
    refine PostO.thenF h2 fun σ4 H4 ρ4 M4 η4 s4 hr4 er4 b4 h5 => ⟨wipe_sb b4 hts, ρ4, M4, η4, hr4, er4, ?_⟩
    refine PostO.bindF h5 fun b M5 H5 ρ5 s5 hr5 h6 => ?_
    have s35 : Step Hc ⟨ids, D :: ρ1.z⟩ H5 ρ5 := (s3.trans s4 hr3).trans s5 hr4
    obtain ⟨ids5, z5⟩ := ρ5
    obtain rfl : z5 = D :: ρ1.z := s35.z
    have sub : ∀ a ∈ ρ1.z, a ∈ D :: ρ1.z := fun a ha => List.mem_cons_of_mem _ ha
    cases b with
    | false =>
      rw [if_neg Bool.false_ne_true] at h6
      show _
      refine ⟨ids5, M5, acc, us, e2.trans s35.toExt, fun a ha => (s35.zk a (sub a ha)).trans (zk2 a ha), hr5, (s35.zk D List.mem_cons_self).trans hd2, ra.mono s35.toExt hr2 _ _, h6⟩
    | true =>
      rw [if_pos rfl] at h6
      refine ⟨_, M5, η4, hr5, er4.mono s5.toExt hr4, ?_⟩
      refine PostO.bindF h6 fun kd M6 H6 ρ6 s6 hr6 h7 uk rk => ?_
      refine ⟨_, M6, η4, hr6, (er4.mono s5.toExt hr4).mono s6.toExt hr5, ?_⟩
      refine PostO.bindF h7 fun yd M7 H7 ρ7 s7 hr7 h8 u ru => ?_
      have s37 := (s35.trans s6 hr5).trans s7 hr6
      obtain ⟨ids7, z7⟩ := ρ7
      obtain rfl : z7 = D :: ρ1.z := s37.z
      have hd7 : H7 D = some (.dK us) := (s37.zk D List.mem_cons_self).trans hd2
      have ra7 := ra.mono s37.toExt hr2 _ _
      split at h8
      · rename_i q hq
        split at h8
        · rename_i hlen
          have hw : Ext H7 ⟨ids7, D :: ρ1.z⟩ (upd H7 D (.dK (putK us q u))) ⟨ids7, D :: ρ1.z⟩ := Ext.write (List.mem_append_right _ List.mem_cons_self)
          refine ⟨us, q, keyD_rel hq rk, hd7, by rw [← ra.length]; exact hlen, ids7, M7, putD acc q yd, putK us q u, (e2.trans s37.toExt).trans hw, fun a ha => ?_, hr7.writeZ List.mem_cons_self trivial, upd_same, (ra7.put (keyD_sok hq rk) ru).mono hw hr7 _ _, h8⟩
          rw [upd_ne fun z => hr7.pn (List.mem_append_right _ (by rw [← z]; exact ha))]
          exact (s37.zk a (sub a ha)).trans (zk2 a ha)
        · exact h8.elim
      · exact h8.elim
end
end NV
end
section
set_option Elab.async false
set_option linter.all false
set_option maxRecDepth 100000
set_option maxHeartbeats 4000000
set_option autoImplicit false
namespace NV
open PySem PySem.Spec L2

/-! ### + and * of anything -/
def aPlus (x y : D) (M : MS) : Option D := match aCat x y M with
  | some zs => some (.lst zs)
  | none => aAdd x y M
noncomputable def aTimes (x y : D) (M : MS) : Option D := match aRep x y M with
  | some zs => some (.lst zs)
  | none => aMul x y M
def rPlus (K : PySem.W.Frag) : R2 := fun x y H Q => rCat x y H Q ∨ rAddA K x y H Q
def rTimes : R2 := fun x y H Q => rRep x y H Q ∨ (rI CMul (fun i j => .int (i * j)) x y H Q ∨ rI CMulW (fun i j => .int (i * j)) x y H Q)
section
variable {X : Cx} {g : GW} {K : PySem.W.Frag} {a b : Expr} {fa fb : Fx D} {pos : Pos}
theorem op_plus : OpR X (binaryOp .Add) (rPlus X.K) := OpR.or op_cat op_addA
theorem op_times : OpR X (binaryOp .Mult) rTimes := OpR.or op_rep op_mulA
theorem o_plus : Op2 K aPlus (rPlus K) := by
  intro x y z M H ρ u v Q e hr rx ry q
  unfold aPlus at e
  split at e
  · rename_i zs hz
    cases e
    exact .inl (o_cat x y zs M H ρ u v Q hz hr rx ry fun p ws rw' hp => q _ _ (keep_new hp) (Rel.lst_new hp hr rw'))
  · exact .inr (o_add x y z M H ρ u v Q e hr rx ry q)
theorem o_times : Op2 K aTimes rTimes := by
  intro x y z M H ρ u v Q e hr rx ry q
  unfold aTimes at e
  split at e
  · rename_i zs hz
    cases e
    exact .inl (o_rep x y zs M H ρ u v Q hz hr rx ry fun p ws rw' hp => q _ _ (keep_new hp) (Rel.lst_new hp hr rw'))
  · exact .inr (o_mul x y z M H ρ u v Q e hr rx ry q)
theorem d_plus (hk : g.K = X.K) (ha : PE X a (tE g fa)) (hb : PE X b (tE g fb)) : PE X (.BinOp a .Add b pos) (tE g (f2 aPlus fa fb)) := d_bin op_plus (by rw [← hk]; exact o_plus) ha hb
theorem d_times (ha : PE X a (tE g fa)) (hb : PE X b (tE g fb)) : PE X (.BinOp a .Mult b pos) (tE g (f2 aTimes fa fb)) := d_bin op_times o_times ha hb
theorem room65 {k : Nat} {A : Around} (r : Room k A) : A.units + 65 < cLine := by have := r.un; omega
theorem room1 {k : Nat} {A : Around} (r : Room k A) : A.units + 1 < cLine := by have := r.un; omega
theorem room64 {k : Nat} {A : Around} (r : Room k A) : A.units + 64 < cLine := by have := r.un; omega
end

/-! ### a def by its name -/
structure FnG (P : Program) (w : World) (K : PySem.W.Frag) (mg : Str → Option Value) (base : Heap) (k : Nat) (x : Str) (ps : List Str) (sp : Sp) : Prop where
  ex : ∃ f fd, mg x = some (.ref f) ∧ PySem.W.keepIn K (.ref f) = true ∧ Binds K fd ps [] ∧ FnOk P w K mg base (L2.CX P w) k f fd ps sp
section
variable {X : Cx} {g : GW} {k : Nat} {ps : List Str} {x : Str} {p pos : Pos} {e : Expr} {es : List Expr} {fa : Fx (List D)} {F : List D → MS → Res D} {np : Nat}
theorem d_fn {K : PySem.W.Frag} {cl : List Addr} (G : FnG X.prog X.w X.K X.mg X.base k x ps (spF K cl np F)) (hK : g.K = K) (hcl : g.cl = cl) {k' : Nat} (hr : Room k' X.A) (hle : k ≤ k') (hg : Gl X x) (tk : Takes X g.W)
    (ha : PA X (e :: es) (tA g fa)) (hdb : (x == ("__debug__" : Str)) = false) (he : starEach (e :: es) X.env = (false, eval e X.env) :: starEach es X.env) (hpl : (backTo pos (starEach es X.env)).any (·.1) = false) :
    PE X (.Call (.Name x p) (e :: es) [] pos) (tE g (fCall np F fa)) := by
  subst hK hcl
  obtain ⟨f, fd, hm, hk, hb, Fn⟩ := G.ex
  exact d_call Fn (hr.mono hle) hg hm hk hb tk ha hdb he hpl
theorem fn_okG {P : Program} {w : World} {K : PySem.W.Frag} {cl : List Addr} {mg : Str → Option Value} {base : Heap} {x : Str} {params : Arguments} {body : List Stmt} {scope : Scope} {f : Addr} {N ps : List Str} {k : Nat} {b : Sx} {rt : MS → MS → D → Res D}
    (F : ∃ fd, FunD K x x params body scope [] [] f fd) (hm : mg x = some (.ref f)) (S : FnScope N ps scope) (np nl : Nat) (hn : ps.length = np) (hl : N.length = nl) (ok : RtOk K rt) (nx : RtNx rt)
    (hbi : ∀ (kV doc pm : Value) (an : Option Addr) (cdv ct : Value) (us : List Value), us.length = ps.length → bindArgs (PySem.W.fnOf x x params body scope .none kV doc pm an cdv ct) ⟨us, []⟩ = pure (ps.zip us))
    (hb : ∀ (cdv : Value) (A : Around) (outer : List Env) (s : Shared) (H : Hp) (E : XK), Room k (A.deeper (PyProof.Rows.envOfC x scope s.heap.objs.size f cdv)) → PSs (cxOf (L2.CX P w) P w K mg base N x scope f cdv A outer s H E) body (tS (gE K cl E) b)) :
    FnG P w K mg base (k + 1) x ps (spF K cl np (bodyF rt np nl b)) := by
  obtain ⟨fd, F⟩ := F
  exact ⟨f, fd, hm, F.kp, F.bindsN hbi, fn_ok F S np nl hn hl ok nx hb⟩
end
theorem fnOk0 {P : Program} {w : World} {K : PySem.W.Frag} {mg : Str → Option Value} {base : Heap} {k : Nat} {f : Addr} {fd : FuncData} {ps : List Str} {sp : Sp} (F : FnOk P w K mg base (L2.CX P w) k f fd ps sp) : FnOk P w K mg base CX0 k f fd ps (fun vs H Q _ => sp vs H Q fun _ _ _ => False) :=
  ⟨fun vs H Q E h => F.len vs H Q _ h, fun A outer s H args us vs Q E hr he hb hv hs => codeAny_mono (F.run A outer s H args us vs Q (fun _ _ _ => False) hr he hb hv hs) fun r s' h => by
    cases r with
    | error e =>
      obtain ⟨_, _, _, _, _, _, _, _, _, _, _, _, z⟩ := (show L2.CX P w outer H s (fun _ _ _ => False) e s' from h)
      exact z.elim
    | ok fl => cases fl <;> exact h⟩
/-- the end: a law that gives True back -/
theorem law_end {K : PySem.W.Frag} {cl : List Addr} {F : List D → MS → Res D} {H : Hp} {a : Addr} {ns : List Int} {n : Nat} (hF : ∀ ns : List Int, ns.length ≤ n → ∃ M', F [.frl (ns.map .int)] [] = .ok (.bl true) M') (hl : ns.length ≤ n) (hS : SqL K H a (ns.map V.int)) (E : XK) :
    spF K cl 1 F [.ref a] H (fun v _ => v = .bl true) E := by
  obtain ⟨M', h⟩ := hF ns hl
  refine ⟨⟨[], []⟩, [], [.frl (ns.map .int)], ⟨List.nodup_nil, rfl, fun n o e => by simp at e, fun a ha => nomatch ha⟩, ?_, rfl, ?_⟩
  · refine Rels.one ⟨a, ns.map V.int, rfl, ?_, ?_⟩
    · rcases hS with h | h
      · exact .inl ⟨h, fun z => nomatch z⟩
      · exact .inr h
    · have : ∀ ns : List Int, Rels K H ⟨[], []⟩ (ns.map .int) (ns.map V.int) := fun ns => by
        induction ns with
        | nil => rfl
        | cons i ns ih => exact ⟨.int i, ns.map V.int, rfl, rfl, ih⟩
      exact this ns
  · rw [h]
    exact fun v H' ρ' s hr r => r
/-- the law's own def -/
theorem fn_okL {P : Program} {w : World} {K : PySem.W.Frag} {cl : List Addr} {mg : Str → Option Value} {x : Str} {params : Arguments} {body : List Stmt} {scope : Scope} {f : Addr} {N ps : List Str} {k : Nat} {b : Sx} {rt : MS → MS → D → Res D}
    (F : ∃ fd, FunD K x x params body scope [] [] f fd) (S : FnScope N ps scope) (np nl : Nat) (hn : ps.length = np) (hl : N.length = nl) (ok : RtOk K rt) (nx : RtNx rt)
    (hbi : ∀ (kV doc pm : Value) (an : Option Addr) (cdv ct : Value) (us : List Value), us.length = ps.length → bindArgs (PySem.W.fnOf x x params body scope .none kV doc pm an cdv ct) ⟨us, []⟩ = pure (ps.zip us))
    (hb : ∀ (base : Heap) (cdv : Value) (A : Around) (outer : List Env) (s : Shared) (H : Hp) (E : XK), Room k (A.deeper (PyProof.Rows.envOfC x scope s.heap.objs.size f cdv)) → PSs (cxOf (L2.CX P w) P w K mg base N x scope f cdv A outer s H E) body (tS (gE K cl E) b)) :
    ∃ fd, (∀ (s : Shared) (us : List Value), us.length = ps.length → BindsTo s fd ⟨us, []⟩ (ps.zip us)) ∧ ∀ base, FnOk P w K mg base (L2.CX P w) (k + 1) f fd ps (spF K cl np (bodyF rt np nl b)) := by
  obtain ⟨fd, F⟩ := F
  exact ⟨fd, fun s us h => F.bindsA hbi s us h, fun base => fn_ok F S np nl hn hl ok nx (hb base)⟩
/-- what a law's end asks (walk_ofE) -/
theorem law_F {P : Program} {w : World} {K : PySem.W.Frag} {cl : List Addr} {mg : Str → Option Value} {f a : Addr} {k n : Nat} {x : Str} {F : List D → MS → Res D}
    (hF : ∀ ns : List Int, ns.length ≤ n → ∃ M', F [.frl (ns.map .int)] [] = .ok (.bl true) M') (hm : mg x = some (.ref f)) (hm2 : mg x = some (.ref a))
    (G : ∃ fd, (∀ (s : Shared) (us : List Value), us.length = ["script"].length → BindsTo s fd ⟨us, []⟩ ((["script"] : List Str).zip us)) ∧ ∀ base, FnOk P w K mg base (L2.CX P w) k a fd ["script"] (spF K cl 1 F)) :
    ∃ (fd : FuncData) (sp : Sp), (∀ (s : Shared) (u : Value), BindsTo s fd ⟨[u], []⟩ [("script", u)]) ∧
      (∀ (H : Hp) (a : Addr) (ns : List Int), ns.length ≤ n → Only H → SqL K H a (ns.map V.int) → sp [.ref a] H (fun v _ => v = .bl true) fun _ _ _ => False) ∧ ∀ base : Heap, FnOk P w K mg base CX0 k f fd ["script"] sp := by
  rw [hm] at hm2
  cases hm2
  obtain ⟨fd, Fd, ok⟩ := G
  exact ⟨fd, (fun vs H Q _ => spF K cl 1 F vs H Q fun _ _ _ => False), fun s u => Fd s [u] rfl, fun H a ns hl _ hS => law_end hF hl hS _, fun base => fnOk0 (ok base)⟩
end NV
end
section
set_option Elab.async false
set_option linter.all false
set_option maxRecDepth 100000
set_option maxHeartbeats 4000000
set_option autoImplicit false
namespace NV
open PySem PySem.Spec L2
instance (s : Str) : Decidable (SOk s) := inferInstanceAs (Decidable (_ ∧ _))
def cLt : D → D → MS → Option D := aCmp (fun i j => decide (i < j)) fun i j => decide (i < j)
def cLe : D → D → MS → Option D := aCmp (fun i j => decide (i ≤ j)) fun i j => !decide (j < i)
def cGt : D → D → MS → Option D := aCmp (fun i j => decide (j < i)) fun i j => decide (j < i)
def cGe : D → D → MS → Option D := aCmp (fun i j => decide (j ≤ i)) fun i j => !decide (i < j)
def cIs : D → D → MS → Option D := aIs fun b => b
def cIsNot : D → D → MS → Option D := aIs fun b => !b
def cIn : D → D → MS → Option D := aIn fun b => b
def cNotIn : D → D → MS → Option D := aIn fun b => !b
def aAddI (x y : D) (M : MS) : Option D := match x, y with
  | .int i, .int j => some (.int (i + j))
  | _, _ => none
/-- how often a while may go round -/
def fuel : Nat := 2 ^ 70
theorem bt_len : bootBuiltins "len" = some (.builtin "len") := by decide +kernel
theorem bt_isinstance : bootBuiltins "isinstance" = some (.builtin "isinstance") := by decide +kernel
theorem bt_abs : bootBuiltins "abs" = some (.builtin "abs") := by decide +kernel
theorem bt_max : bootBuiltins "max" = some (.builtin "max") := by decide +kernel
theorem bt_min : bootBuiltins "min" = some (.builtin "min") := by decide +kernel
theorem bt_all : bootBuiltins "all" = some (.builtin "all") := by decide +kernel
theorem bt_any : bootBuiltins "any" = some (.builtin "any") := by decide +kernel
theorem bt_sorted : bootBuiltins "sorted" = some (.builtin "sorted") := by decide +kernel
theorem bt_int : bootBuiltins "int" = some (.type "int") := by decide +kernel
theorem bt_bool : bootBuiltins "bool" = some (.type "bool") := by decide +kernel
theorem bt_str : bootBuiltins "str" = some (.type "str") := by decide +kernel
theorem bt_tuple : bootBuiltins "tuple" = some (.type "tuple") := by decide +kernel
theorem bt_list : bootBuiltins "list" = some (.type "list") := by decide +kernel
theorem bt_dict : bootBuiltins "dict" = some (.type "dict") := by decide +kernel
theorem bt_set : bootBuiltins "set" = some (.type "set") := by decide +kernel
section
variable {X : Cx} {g : GW} {pos : Pos} {K : PySem.W.Frag}
theorem d_none0 {j : Nat} : PE X (.Constant .none j pos) (tE g (fC .non)) := d_c pe_non fun _ _ => rfl
theorem d_bool0 {b : Bool} {j : Nat} : PE X (.Constant (.bool b) j pos) (tE g (fC (.bl b))) := d_c pe_bl fun _ _ => rfl
theorem o_addI : Op2 K aAddI (ipI fun i j => i + j) := by
  intro x y z M H ρ u v Q e hr rx ry q
  unfold aAddI at e
  split at e
  · cases e
    exact ⟨_, _, rx, ry, q H _ (fun _ _ h => h) rfl⟩
  · cases e
theorem o_subI : Op2 K aSub (ipI fun i j => i - j) := by
  intro x y z M H ρ u v Q e hr rx ry q
  unfold aSub at e
  split at e
  · cases e
    exact ⟨_, _, rx, ry, q H _ (fun _ _ h => h) rfl⟩
  · cases e
theorem ds_par {i j : Nat} {x y : Str} {a b : Expr} {fs : Fx (List D)} {px py pt : Pos} {kt k2 pt2} (hc : X.calm = true) (hN : X.N.Nodup) (hi : X.N[i]? = some x) (hj : X.N[j]? = some y) (hij : i ≠ j)
    (hx : X.env.scope.names.lookup x = some .local) (hy : X.env.scope.names.lookup y = some .local) (ha : PA X [a, b] (tA g fs))
    (hw : swappedStores [.Tuple [.Name x px, .Name y py] kt pt] (.Tuple [a, b] k2 pt2) X.env = pure (some [x, y]))
    (hs : swapsWithSole [.Tuple [.Name x px, .Name y py] kt pt] (.Tuple [a, b] k2 pt2) pos.line X.env = pure false) :
    PS X (.Assign [.Tuple [.Name x px, .Name y py] kt pt] (.Tuple [a, b] k2 pt2) pos) (tS g (sPar i j fs)) := PS.imp (ps_par hc hN hi hj hij hx hy ha hw hs) fun E σ H q => t_par q
theorem ds_aug {i : Nat} {x : Str} {e : Expr} {f : Fx D} {op : Operator} {φ : D → D → MS → Option D} {r : TIp} {pos' : Pos} (hN : X.N.Nodup) (hi : X.N[i]? = some x) (hx : Loc X.env.scope x) (he : PE X e (tE g f)) (ho : PIp X op r) (hop : Op2 g.K φ r)
    (hf : X.fn x = true ∨ X.env.scope.names.lookup x = some .local) : PS X (.AugAssign (.Name x pos') op e pos) (tS g (sAug i φ f)) := PS.imp (ps_aug hN hi hx he ho hf) fun E σ H q => t_aug hop q
end
end NV
end
section
set_option Elab.async false
set_option linter.all false
set_option maxRecDepth 100000
set_option maxHeartbeats 0
set_option autoImplicit false
/-! the defs that every law has, as gen.py prints them -/
namespace NV
open PySem PySem.Spec L2
noncomputable def s__law_bag : Sx := (sRet (fBox (nLst (aCons (fC (.int 0)) (aCons (fC (.int 1234567891)) (aCons (fC (.int 0)) (aCons (fLst (nLc [1] (fSrc (fSl (fVar 0) fNone (fOpt (fC (.int 63))))) (xName 1) fYes (fN bAbs (aCons (fVar 1) aNil)))) aNil)))))))
noncomputable def F__law_bag : List D → MS → Res D := bodyF retB 1 2 s__law_bag
noncomputable def s__law_take : Sx := (sSeq (sIf (tBl (f2 aEq (f2 aIx (fVar 0) (fC (.int 0))) (fC (.int 0)))) (sSeq (sSet 2 (f2 aIx (f2 aPlus (fSl (f2 aIx (fVar 0) (fC (.int 3))) (fOpt (f2 aIx (fVar 0) (fC (.int 2)))) fNone) (fLst (nLst (aCons (fC (.int 0)) aNil)))) (fC (.int 0))))
  (sSeq (sAugS (fVar 0) (fC (.int 2)) aAddI (fC (.int 1)))
  (sSeq (sIf (tBl (f2 cGe (fVar 2) (f2 aPow (fC (.int 10)) (fC (.int 18))))) (sAsg (fVar 2) (xSub (fVar 0) (fC (.int 0)))) sPass)
  (sSeq (sSet 3 (f2 aPlus (f2 aPlus (f2 aTimes (f2 aIx (fVar 0) (fC (.int 1))) (fC (.int 48271))) (f2 aMod (fN bInt (aCons (fVar 2) aNil)) (fC (.int 2147483647)))) (f2 aTimes (fC (.int 7919)) (f2 aIx (fVar 0) (fC (.int 2))))))
  (sAsg (f2 aMod (fN bInt (aCons (fVar 3) aNil)) (fC (.int 2147483647))) (xSub (fVar 0) (fC (.int 1)))))))) sPass)
  (sSeq (sIf (tBl (f2 cGt (f2 aIx (fVar 0) (fC (.int 0))) (fC (.int 0)))) (sSeq (sSet 4 (f2 aMod (fN bInt (aCons (f2 aIx (fVar 0) (fC (.int 0))) aNil)) (fVar 1)))
  (sSeq (sAsg (f2 aFdiv (fN bInt (aCons (f2 aIx (fVar 0) (fC (.int 0))) aNil)) (fVar 1)) (xSub (fVar 0) (fC (.int 0))))
  (sRet (fVar 4)))) sPass)
  (sSeq (sSet 5 (f2 aMod (fN bInt (aCons (f2 aTimes (f2 aPlus (f2 aIx (fVar 0) (fC (.int 1))) (fC (.int 1))) (fC (.int 39373))) aNil)) (fC (.int 1000000007))))
  (sSeq (sSet 6 (f2 aMod (fN bInt (aCons (f2 aTimes (f2 aMod (fN bInt (aCons (f2 aTimes (fVar 5) (fVar 5)) aNil)) (fC (.int 998244353))) (fC (.int 30011))) aNil)) (fC (.int 998244353))))
  (sRet (f2 aMod (fN bInt (aCons (f2 aFdiv (fVar 6) (fC (.int 7))) aNil)) (fVar 1)))))))
noncomputable def F__law_take : List D → MS → Res D := bodyF retF 2 7 s__law_take
noncomputable def s__law_some : Sx := (sRet (f2 aIx (fVar 1) (fCall 2 F__law_take (aCons (fVar 0) (aCons (fN bLen (aCons (fVar 1) aNil)) aNil)))))
noncomputable def F__law_some : List D → MS → Res D := bodyF retF 2 2 s__law_some
noncomputable def s__law_alike : Sx := (sSeq (sPar 2 3 (aCons (fBox (nLst (aCons (fTup (aCons (fVar 0) (aCons (fVar 1) aNil))) aNil))) (aCons (fC (.int 0)) aNil)))
  (sSeq (sWhile (tBl (f2 cLt (fVar 3) (fN bLen (aCons (fVar 2) aNil)))) (sSeq (sAsg (f2 aIx (fVar 2) (fVar 3)) (xTup 2 (xCons (xName 4) (xCons (xName 5) xNil))))
  (sSeq (sAug 3 aAddI (fC (.int 1)))
  (sSeq (sIf (tOrF (tBl (f2 aNe (fN bIsi (aCons (fVar 4) (aCons (fC (.ty "bool")) aNil))) (fN bIsi (aCons (fVar 5) (aCons (fC (.ty "bool")) aNil))))) (tBl (f2 aNe (fN bIsi (aCons (fVar 4) (aCons (fC (.ty "str")) aNil))) (fN bIsi (aCons (fVar 5) (aCons (fC (.ty "str")) aNil)))))) (sRet (fC (.bl false))) sPass)
  (sSeq (sIf (tBl (f2 aNe (fN bIsi (aCons (fVar 4) (aCons (fTup (aCons (fC (.ty "tuple")) (aCons (fC (.ty "list")) aNil))) aNil))) (fN bIsi (aCons (fVar 5) (aCons (fTup (aCons (fC (.ty "tuple")) (aCons (fC (.ty "list")) aNil))) aNil))))) (sRet (fC (.bl false))) sPass)
  (sIf (fTru (fN bIsi (aCons (fVar 4) (aCons (fTup (aCons (fC (.ty "tuple")) (aCons (fC (.ty "list")) aNil))) aNil)))) (sSeq (sIf (tOrF (tBl (f2 aNe (fN bIsi (aCons (fVar 4) (aCons (fC (.ty "tuple")) aNil))) (fN bIsi (aCons (fVar 5) (aCons (fC (.ty "tuple")) aNil))))) (tBl (f2 aNe (fN bLen (aCons (fVar 4) aNil)) (fN bLen (aCons (fVar 5) aNil))))) (sRet (fC (.bl false))) sPass)
  (sExpr (fM "list" mExtend (fVar 2) (aCons (fLst (nN bZip (aCons (fVar 4) (aCons (fVar 5) aNil)))) aNil)))) (sIf (tBl (f2 aNe (fVar 4) (fVar 5))) (sRet (fC (.bl false))) sPass)))))) fuel)
  (sRet (fC (.bl true)))))
noncomputable def F__law_alike : List D → MS → Res D := bodyF retF 2 6 s__law_alike
end NV
end
section
set_option Elab.async false
set_option linter.all false
set_option maxRecDepth 100000
set_option maxHeartbeats 4000000
set_option autoImplicit false
namespace NV
open PySem PySem.Spec L2

/-! ### evaluation, plainly -/
section
variable {α β : Type} {a : α} {M M' : MS} {k : α → MS → Res β} {ks : α → MS → SRes} {η η' : Nv} {x : Ex} {h : Sx}
@[simp] theorem bindR_ok : bindR (.ok a M) k = k a M := rfl
@[simp] theorem bindF_ok : bindF (.ok a M) k = k a M := rfl
@[simp] theorem bindS_ok : bindS (.ok a M) η ks = ks a M := rfl
@[simp] theorem thenS_nx : thenS (.nx η M) h = h η M := rfl
@[simp] theorem thenS_ret {d : D} : thenS (.ret d M) h = .ret d M := rfl
@[simp] theorem thenS_bk : thenS (.bk η M) h = .bk η M := rfl
@[simp] theorem thenS_ct : thenS (.ct η M) h = .ct η M := rfl
@[simp] theorem thenG_nx : thenG (.nx η M) h = h η M := rfl
@[simp] theorem thenF_nx {kf : Nv → MS → Res β} : thenF (.nx η M) kf = kf η M := rfl
@[simp] theorem turnS_nx : turnS (.nx η M) h = h η M := rfl
@[simp] theorem turnS_ct : turnS (.ct η M) h = h η M := rfl
@[simp] theorem turnS_bk : turnS (.bk η M) h = .nx η M := rfl
@[simp] theorem turnS_ret {d : D} : turnS (.ret d M) h = .ret d M := rfl
@[simp] theorem optR_some {z : D} : optR (some z) M = .ok z M := rfl
@[simp] theorem optL_some {z : List D} : optL (some z) M = .ok z M := rfl
@[simp] theorem gOk_nil : gOk [] M := fun p hp => nomatch hp
@[simp] theorem gIf_nil {r : SRes} : gIf [] M r = r := by unfold gIf; rw [if_pos gOk_nil]
@[simp] theorem gIfR_nil {r : Res β} : gIfR [] M r = r := by unfold gIfR; rw [if_pos gOk_nil]
theorem gOk_one {n : Nat} {xs : List D} : gOk [(n, xs)] M ↔ M[n]? = some (.lst xs) := by simp [gOk]
theorem gIf_pos {gs : List (Nat × List D)} {r : SRes} (h : gOk gs M) : gIf gs M r = r := by unfold gIf; rw [if_pos h]
theorem gIfR_pos {gs : List (Nat × List D)} {r : Res β} (h : gOk gs M) : gIfR gs M r = r := by unfold gIfR; rw [if_pos h]
end
/-! what is given back -/
theorem Kept.refl (M : MS) : Kept M M := ⟨Nat.le_refl _, fun _ _ => .inl rfl⟩
theorem Kept.app (M g : MS) : Kept M (M ++ g) := ⟨by simp, fun n hn => .inl (List.getElem?_append_left hn)⟩
theorem retF_ok {M M' : MS} {d : D} (k : Kept M M') (h : d.cl M.length = true) : retF M M' d = .ok d (M'.take M.length) := by
  unfold retF
  have e : frz M' M.length 100 d = some d := by unfold frz; rw [if_pos h]
  rw [e]
  exact if_pos k
theorem retF_frz {M M' : MS} {d d' : D} (k : Kept M M') (h : frz M' M.length 100 d = some d') : retF M M' d = .ok d' (M'.take M.length) := by
  unfold retF
  rw [h]
  exact if_pos k
theorem retF_self {M : MS} {d : D} (h : d.cl M.length = true) : retF M M d = .ok d M := by rw [retF_ok (Kept.refl M) h, List.take_length]
theorem retF_app {M g : MS} {d : D} (h : d.cl M.length = true) : retF M (M ++ g) d = .ok d M := by rw [retF_ok (Kept.app M g) h, List.take_left]
@[simp] theorem cl_int {k : Nat} {i : Int} : D.cl k (.int i) = true := rfl
@[simp] theorem cl_bl {k : Nat} {i : Bool} : D.cl k (.bl i) = true := rfl
@[simp] theorem cl_str {k : Nat} {i : Str} : D.cl k (.str i) = true := rfl
@[simp] theorem cl_non {k : Nat} : D.cl k .non = true := rfl
@[simp] theorem cl_ty {k : Nat} {n : String} : D.cl k (.ty n) = true := rfl
@[simp] theorem cl_tup {k : Nat} {xs : List D} : D.cl k (.tup xs) = cls k xs := rfl
@[simp] theorem cl_lst {k : Nat} {xs : List D} : D.cl k (.lst xs) = cls k xs := rfl
@[simp] theorem cl_frt {k : Nat} {xs : List D} : D.cl k (.frt xs) = cls k xs := rfl
@[simp] theorem cl_frl {k : Nat} {xs : List D} : D.cl k (.frl xs) = cls k xs := rfl
@[simp] theorem cl_ref {k n : Nat} : D.cl k (.ref n) = decide (n < k) := rfl
@[simp] theorem cls_nil {k : Nat} : cls k [] = true := rfl
@[simp] theorem cls_cons {k : Nat} {x : D} {xs : List D} : cls k (x :: xs) = (D.cl k x && cls k xs) := rfl
theorem cls_all {k : Nat} : ∀ {xs : List D}, cls k xs = xs.all (D.cl k)
  | [] => rfl
  | x :: xs => by rw [cls_cons, cls_all, List.all_cons]
theorem cls_iff {k : Nat} {xs : List D} : cls k xs = true ↔ ∀ x ∈ xs, D.cl k x = true := by rw [cls_all, List.all_eq_true]
@[simp] theorem cls_append {k : Nat} {xs ys : List D} : cls k (xs ++ ys) = (cls k xs && cls k ys) := by rw [cls_all, cls_all, cls_all, List.all_append]
@[simp] theorem cls_ints {k : Nat} {ns : List Int} : cls k (ns.map .int) = true := cls_iff.mpr fun x hx => by
  obtain ⟨i, _, rfl⟩ := List.mem_map.mp hx
  rfl
mutual
theorem plain_cl {k : Nat} : ∀ d : D, d.plain = true → d.cl k = true
  | .non, _ => rfl
  | .bl _, _ => rfl
  | .int _, _ => rfl
  | .str _, _ => rfl
  | .tup xs, h => plains_cl xs h
  | .lst xs, h => plains_cl xs h
  | .frl xs, h => plains_cl xs h
  | .frt xs, h => plains_cl xs h
  | .ty _, h => by cases h
  | .ref _, h => by cases h
  | .dcK _, h => by cases h
  | .dcT _, h => by cases h
theorem plains_cl {k : Nat} : ∀ xs : List D, plains xs = true → cls k xs = true
  | [], _ => rfl
  | x :: xs, h => by
    have h : (D.plain x && plains xs) = true := h
    rw [Bool.and_eq_true] at h
    rw [cls_cons, plain_cl x h.1, plains_cl xs h.2]
    rfl
end
@[simp] theorem plain_non : D.plain .non = true := rfl
@[simp] theorem plain_bl {b : Bool} : D.plain (.bl b) = true := rfl
@[simp] theorem plain_int {i : Int} : D.plain (.int i) = true := rfl
@[simp] theorem plain_str {s : Str} : D.plain (.str s) = true := rfl
@[simp] theorem plain_tup {xs : List D} : D.plain (.tup xs) = plains xs := rfl
@[simp] theorem plain_lst {xs : List D} : D.plain (.lst xs) = plains xs := rfl
@[simp] theorem plain_frl {xs : List D} : D.plain (.frl xs) = plains xs := rfl
@[simp] theorem plain_frt {xs : List D} : D.plain (.frt xs) = plains xs := rfl
@[simp] theorem plains_nil : plains [] = true := rfl
@[simp] theorem plains_cons {x : D} {xs : List D} : plains (x :: xs) = (x.plain && plains xs) := rfl
theorem plains_iff {xs : List D} : plains xs = true ↔ ∀ x ∈ xs, D.plain x = true := by rw [plains_all, List.all_eq_true]
@[simp] theorem plains_append {xs ys : List D} : plains (xs ++ ys) = (plains xs && plains ys) := by rw [plains_all, plains_all, plains_all, List.all_append]
@[simp] theorem p_non : D.p .non = .none := rfl
@[simp] theorem p_bl {b : Bool} : D.p (.bl b) = .bool b := rfl
@[simp] theorem p_int {i : Int} : D.p (.int i) = .int i := rfl
@[simp] theorem p_str {s : Str} : D.p (.str s) = .str s := rfl
@[simp] theorem p_tup {xs : List D} : D.p (.tup xs) = .tuple (ps xs) := rfl
@[simp] theorem p_lst {xs : List D} : D.p (.lst xs) = .list (ps xs) := rfl
@[simp] theorem p_frl {xs : List D} : D.p (.frl xs) = .list (ps xs) := rfl
@[simp] theorem p_frt {xs : List D} : D.p (.frt xs) = .tuple (ps xs) := rfl
@[simp] theorem ps_nil : ps [] = [] := rfl
@[simp] theorem ps_cons {x : D} {xs : List D} : ps (x :: xs) = x.p :: ps xs := rfl
theorem pD_plain {M : MS} {d : D} (h : d.plain = true) : pD M d = some d.p := by
  have key : (if d.plain = true then some d.p else none) = some d.p := if_pos h
  cases d with
  | ref n => cases h
  | _ => exact key
@[simp] theorem pD_non {M : MS} : pD M .non = some .none := rfl
@[simp] theorem pD_int {M : MS} {i : Int} : pD M (.int i) = some (.int i) := rfl
@[simp] theorem pD_bl {M : MS} {i : Bool} : pD M (.bl i) = some (.bool i) := rfl
@[simp] theorem pD_str {M : MS} {i : Str} : pD M (.str i) = some (.str i) := rfl
@[simp] theorem pD_tup {M : MS} {xs : List D} : pD M (.tup xs) = if plains xs = true then some (.tuple (ps xs)) else none := rfl
@[simp] theorem pD_lst {M : MS} {xs : List D} : pD M (.lst xs) = if plains xs = true then some (.list (ps xs)) else none := rfl
@[simp] theorem pD_frt {M : MS} {xs : List D} : pD M (.frt xs) = if plains xs = true then some (.tuple (ps xs)) else none := rfl
@[simp] theorem pD_frl {M : MS} {xs : List D} : pD M (.frl xs) = if plains xs = true then some (.list (ps xs)) else none := rfl
/-! comparisons of whole numbers, of bools -/
section
variable {M : MS} {i j : Int} {a b : Bool} {s t : Str}
@[simp] theorem aEq_int : aEq (.int i) (.int j) M = some (.bl (decide (i = j))) := by simp [aEq, PyData.depth, PyData.eqv, Bool.beq_eq_decide_eq]
@[simp] theorem aNe_int : aNe (.int i) (.int j) M = some (.bl (!decide (i = j))) := by simp [aNe, PyData.depth, PyData.eqv, Bool.beq_eq_decide_eq]
@[simp] theorem aEq_bl : aEq (.bl a) (.bl b) M = some (.bl (decide (a = b))) := by simp [aEq, PyData.depth, PyData.eqv, Bool.beq_eq_decide_eq]
@[simp] theorem aNe_bl : aNe (.bl a) (.bl b) M = some (.bl (!decide (a = b))) := by simp [aNe, PyData.depth, PyData.eqv, Bool.beq_eq_decide_eq]
@[simp] theorem aEq_str : aEq (.str s) (.str t) M = some (.bl (decide (s = t))) := by simp [aEq, PyData.depth, PyData.eqv, Bool.beq_eq_decide_eq]
@[simp] theorem cLt_int : cLt (.int i) (.int j) M = some (.bl (decide (i < j))) := rfl
@[simp] theorem cLe_int : cLe (.int i) (.int j) M = some (.bl (decide (i ≤ j))) := rfl
@[simp] theorem cGt_int : cGt (.int i) (.int j) M = some (.bl (decide (j < i))) := rfl
@[simp] theorem cGe_int : cGe (.int i) (.int j) M = some (.bl (decide (j ≤ i))) := rfl
@[simp] theorem aAddI_int : aAddI (.int i) (.int j) M = some (.int (i + j)) := rfl
@[simp] theorem aPlus_int : aPlus (.int i) (.int j) M = some (.int (i + j)) := rfl
@[simp] theorem aSub_int : aSub (.int i) (.int j) M = some (.int (i - j)) := rfl
@[simp] theorem aMod_int (h : j ≠ 0) : aMod (.int i) (.int j) M = some (.int (i.fmod j)) := by simp [aMod, h]
theorem aTimes_int (h : CMul i j ∨ CMulW i j) : aTimes (.int i) (.int j) M = some (.int (i * j)) := by simp [aTimes, aRep, lxOf, aMul, h]
theorem aFdiv_int (h : CDivN i j ∨ CDivW i j) : aFdiv (.int i) (.int j) M = some (.int (i.fdiv j)) := by simp [aFdiv, h]
@[simp] theorem aTimes_r (h : -(2 ^ 64) < j) (h' : j < 2 ^ 64) : aTimes (.int i) (.int j) M = some (.int (i * j)) := aTimes_int (.inl (.inr ⟨h, h'⟩))
@[simp] theorem aTimes_l (h : -(2 ^ 64) < i) (h' : i < 2 ^ 64) : aTimes (.int i) (.int j) M = some (.int (i * j)) := aTimes_int (.inl (.inl ⟨h, h'⟩))
@[simp] theorem aFdiv_r (h : j ≠ 0) (h' : j.natAbs < 1073741824) : aFdiv (.int i) (.int j) M = some (.int (i.fdiv j)) := aFdiv_int (.inl ⟨h, h'⟩)
@[simp] theorem aPow_int (h : CPow i j) : aPow (.int i) (.int j) M = some (.int (i ^ j.toNat)) := by simp [aPow, h]
@[simp] theorem bInt_int : bInt [.int i] M = some (.int i) := rfl
@[simp] theorem bAbs_int : bAbs [.int i] M = some (.int (if i < 0 then -i else i)) := rfl
end

/-! places of lists -/
section
variable {M : MS} {xs : List D} {n : Nat}
@[simp] theorem lsOf_lst : lsOf M (.lst xs) = some xs := rfl
@[simp] theorem lsOf_frl : lsOf M (.frl xs) = some xs := rfl
@[simp] theorem lsOf_tup : lsOf M (.tup xs) = none := rfl
@[simp] theorem lsOf_frt : lsOf M (.frt xs) = none := rfl
@[simp] theorem lsOf_int {i : Int} : lsOf M (.int i) = none := rfl
@[simp] theorem lsOf_str {i : Str} : lsOf M (.str i) = none := rfl
@[simp] theorem lsOf_bl {i : Bool} : lsOf M (.bl i) = none := rfl
@[simp] theorem lsOf_non : lsOf M .non = none := rfl
@[simp] theorem lxOf_lst : lxOf M (.lst xs) = some xs := rfl
@[simp] theorem lxOf_tup : lxOf M (.tup xs) = none := rfl
@[simp] theorem lxOf_frt : lxOf M (.frt xs) = none := rfl
@[simp] theorem lxOf_int {i : Int} : lxOf M (.int i) = none := rfl
@[simp] theorem lxOf_str {i : Str} : lxOf M (.str i) = none := rfl
@[simp] theorem tpOf_tup : tpOf (.tup xs) = some xs := rfl
@[simp] theorem tpOf_frt : tpOf (.frt xs) = some xs := rfl
@[simp] theorem tpOf_lst : tpOf (.lst xs) = none := rfl
@[simp] theorem tpOf_int {i : Int} : tpOf (.int i) = none := rfl
@[simp] theorem tpOf_str {i : Str} : tpOf (.str i) = none := rfl
@[simp] theorem tpOf_bl {i : Bool} : tpOf (.bl i) = none := rfl
@[simp] theorem tpOf_non : tpOf .non = none := rfl
theorem lsOf_ref (h : M[n]? = some (.lst xs)) : lsOf M (.ref n) = some xs := by simp [lsOf, h]
theorem lxOf_ref (h : M[n]? = some (.lst xs)) : lxOf M (.ref n) = some xs := by simp [lxOf, h]
theorem atI_nat {α : Type} {xs : List α} {i : Nat} {x : α} (h : xs[i]? = some x) : atI xs (i : Int) = some x := by
  obtain ⟨hl, e⟩ := List.getElem?_eq_some_iff.mp h
  simp [atI, ixN, hl, e]
theorem aIx_ls {x : D} {i : Nat} {d : D} (h : lsOf M x = some xs) (hd : xs[i]? = some d) : aIx x (.int i) M = some d := by
  unfold aIx
  rw [h]
  exact atI_nat hd
theorem aIx_tp {x : D} {i : Nat} {d : D} (h0 : lsOf M x = none) (h : tpOf x = some xs) (hd : xs[i]? = some d) : aIx x (.int i) M = some d := by
  unfold aIx
  rw [h0, h]
  exact atI_nat hd
theorem setA_lst {i : Nat} {d : D} (h : M[n]? = some (.lst xs)) (hi : i < xs.length) : setA (.ref n) (.int i) d M = some (M.set n (.lst (xs.set i d))) := by
  simp [setA, h, ixN, hi]
theorem set_at {o o' : MO} (h : M[n]? = some o') : (M.set n o)[n]? = some o := List.getElem?_set_self (List.getElem?_eq_some_iff.mp h).1
end
/-! ### the bag of the script's numbers -/
def bagD (a b c : Int) (cells : List Int) : List D := [.int a, .int b, .int c, .lst (cells.map .int)]
structure BagOk (a b c : Int) (cells : List Int) : Prop where
  a0 : 0 ≤ a
  b0 : 0 ≤ b
  b1 : b < 2147483647
  c0 : 0 ≤ c
  pos : ∀ x ∈ cells, 0 ≤ x
  len : cells.length ≤ 63
/-- the bag is the boxed object number n -/
def Bag (n : Nat) (M : MS) : Prop := ∃ a b c cells, M[n]? = some (.lst (bagD a b c cells)) ∧ BagOk a b c cells
/-- nothing else is another -/
def Else (n : Nat) (M M' : MS) : Prop := M'.length = M.length ∧ ∀ j, j ≠ n → M'[j]? = M[j]?
theorem Else.refl (n : Nat) (M : MS) : Else n M M := ⟨rfl, fun _ _ => rfl⟩
theorem Else.trans {n : Nat} {M M1 M2 : MS} (h : Else n M M1) (h' : Else n M1 M2) : Else n M M2 := ⟨h'.1.trans h.1, fun j hj => (h'.2 j hj).trans (h.2 j hj)⟩
theorem Else.set (n : Nat) (M : MS) (o : MO) : Else n M (M.set n o) := ⟨List.length_set, fun j hj => List.getElem?_set_ne (Ne.symm hj)⟩
@[simp] theorem cls_bag {k : Nat} {a b c : Int} {cells : List Int} : cls k (bagD a b c cells) = true := by simp [bagD]
theorem bag_lt {n : Nat} {M : MS} (h : Bag n M) : n < M.length := let ⟨_, _, _, _, e, _⟩ := h; (List.getElem?_eq_some_iff.mp e).1
theorem Kept.bag {n : Nat} {M M' : MS} (e : Else n M M') (h : Bag n M') : Kept M M' := ⟨by rw [e.1]; exact Nat.le_refl _, fun j hj => by
  by_cases hn : j = n
  · subst hn
    obtain ⟨a, b, c, cells, q, _⟩ := h
    exact .inr ⟨_, q, cls_bag⟩
  · exact .inl (e.2 j hn)⟩
theorem retF_bag {n : Nat} {M M' : MS} {d : D} (e : Else n M M') (h : Bag n M') (hd : d.cl M.length = true) : retF M M' d = .ok d M' := by
  rw [retF_ok (Kept.bag e h) hd, ← e.1, List.take_length]
end NV
end
section
set_option Elab.async false
set_option linter.all false
set_option maxRecDepth 100000
set_option maxHeartbeats 4000000
namespace NV
open PySem PySem.Spec L2
section
variable {n : Nat} {M : MS} {a b c : Int} {cells : List Int}
theorem bag0 (e : M[n]? = some (.lst (bagD a b c cells))) : aIx (.ref n) (.int 0) M = some (.int a) := aIx_ls (i := 0) (lsOf_ref e) rfl
theorem bag1 (e : M[n]? = some (.lst (bagD a b c cells))) : aIx (.ref n) (.int 1) M = some (.int b) := aIx_ls (i := 1) (lsOf_ref e) rfl
theorem bag2 (e : M[n]? = some (.lst (bagD a b c cells))) : aIx (.ref n) (.int 2) M = some (.int c) := aIx_ls (i := 2) (lsOf_ref e) rfl
theorem bag3 (e : M[n]? = some (.lst (bagD a b c cells))) : aIx (.ref n) (.int 3) M = some (.lst (cells.map .int)) := aIx_ls (i := 3) (lsOf_ref e) rfl
theorem bagS0 (e : M[n]? = some (.lst (bagD a b c cells))) (x : Int) : setA (.ref n) (.int 0) (.int x) M = some (M.set n (.lst (bagD x b c cells))) := setA_lst (i := 0) e (by simp [bagD])
theorem bagS1 (e : M[n]? = some (.lst (bagD a b c cells))) (x : Int) : setA (.ref n) (.int 1) (.int x) M = some (M.set n (.lst (bagD a x c cells))) := setA_lst (i := 1) e (by simp [bagD])
theorem bagS2 (e : M[n]? = some (.lst (bagD a b c cells))) (x : Int) : setA (.ref n) (.int 2) (.int x) M = some (M.set n (.lst (bagD a b x cells))) := setA_lst (i := 2) e (by simp [bagD])
end
noncomputable def take_sA : Sx := (sIf (tBl (f2 aEq (f2 aIx (fVar 0) (fC (.int 0))) (fC (.int 0)))) (sSeq (sSet 2 (f2 aIx (f2 aPlus (fSl (f2 aIx (fVar 0) (fC (.int 3))) (fOpt (f2 aIx (fVar 0) (fC (.int 2)))) fNone) (fLst (nLst (aCons (fC (.int 0)) aNil)))) (fC (.int 0))))
  (sSeq (sAugS (fVar 0) (fC (.int 2)) aAddI (fC (.int 1)))
  (sSeq (sIf (tBl (f2 cGe (fVar 2) (f2 aPow (fC (.int 10)) (fC (.int 18))))) (sAsg (fVar 2) (xSub (fVar 0) (fC (.int 0)))) sPass)
  (sSeq (sSet 3 (f2 aPlus (f2 aPlus (f2 aTimes (f2 aIx (fVar 0) (fC (.int 1))) (fC (.int 48271))) (f2 aMod (fN bInt (aCons (fVar 2) aNil)) (fC (.int 2147483647)))) (f2 aTimes (fC (.int 7919)) (f2 aIx (fVar 0) (fC (.int 2))))))
  (sAsg (f2 aMod (fN bInt (aCons (fVar 3) aNil)) (fC (.int 2147483647))) (xSub (fVar 0) (fC (.int 1)))))))) sPass)
noncomputable def take_sB : Sx := (sSeq (sIf (tBl (f2 cGt (f2 aIx (fVar 0) (fC (.int 0))) (fC (.int 0)))) (sSeq (sSet 4 (f2 aMod (fN bInt (aCons (f2 aIx (fVar 0) (fC (.int 0))) aNil)) (fVar 1)))
  (sSeq (sAsg (f2 aFdiv (fN bInt (aCons (f2 aIx (fVar 0) (fC (.int 0))) aNil)) (fVar 1)) (xSub (fVar 0) (fC (.int 0))))
  (sRet (fVar 4)))) sPass)
  (sSeq (sSet 5 (f2 aMod (fN bInt (aCons (f2 aTimes (f2 aPlus (f2 aIx (fVar 0) (fC (.int 1))) (fC (.int 1))) (fC (.int 39373))) aNil)) (fC (.int 1000000007))))
  (sSeq (sSet 6 (f2 aMod (fN bInt (aCons (f2 aTimes (f2 aMod (fN bInt (aCons (f2 aTimes (fVar 5) (fVar 5)) aNil)) (fC (.int 998244353))) (fC (.int 30011))) aNil)) (fC (.int 998244353))))
  (sRet (f2 aMod (fN bInt (aCons (f2 aFdiv (fVar 6) (fC (.int 7))) aNil)) (fVar 1))))))
theorem take_eq : s__law_take = sSeq take_sA take_sB := rfl
/-- the second half of _law_take -/
theorem take_B {n : Nat} {M : MS} {m a b c : Int} {cells : List Int} {x2 x3 x4 x5 x6 : Option D} (e : M[n]? = some (.lst (bagD a b c cells))) (ok : BagOk a b c cells) (h0 : 0 < m) (h1 : m < 2 ^ 30) : ∃ v M',
    take_sB [some (.ref n), some (.int m), x2, x3, x4, x5, x6] M = .ret (.int v) M' ∧ 0 ≤ v ∧ v < m ∧ Bag n M' ∧ Else n M M' := by
  have hm : m ≠ 0 := by omega
  have hm2 : m.natAbs < 1073741824 := by omega
  have nn : ∀ x : Int, 0 ≤ x.fmod m ∧ x.fmod m < m := fun x => ⟨Int.fmod_nonneg_of_pos _ h0, Int.fmod_lt_of_pos _ h0⟩
  by_cases ha : 0 < a
  · refine ⟨a.fmod m, M.set n (.lst (bagD (a.fdiv m) b c cells)), ?_, (nn a).1, (nn a).2, ⟨_, _, _, _, set_at e, ⟨Int.fdiv_nonneg ok.a0 (by omega), ok.b0, ok.b1, ok.c0, ok.pos, ok.len⟩⟩, Else.set _ _ _⟩
    simp [take_sB, sSeq, sIf, tBl, f2, fVar, fC, bag0 e, bagS0 e, ha, sSet, fN, aCons, aNil, hm, hm2, sAsg, xSub, sRet, sPass]
  · have hq : -(2 ^ 64) < ((b + 1) * 39373).fmod 1000000007 ∧ ((b + 1) * 39373).fmod 1000000007 < 2 ^ 64 := by
      have h1 := Int.fmod_nonneg_of_pos ((b + 1) * 39373) (show (0 : Int) < 1000000007 by decide)
      have h2 := Int.fmod_lt_of_pos ((b + 1) * 39373) (show (0 : Int) < 1000000007 by decide)
      omega
    have tt : ∀ M, aTimes (.int (((b + 1) * 39373).fmod 1000000007)) (.int (((b + 1) * 39373).fmod 1000000007)) M = some (.int (((b + 1) * 39373).fmod 1000000007 * ((b + 1) * 39373).fmod 1000000007)) := fun M => aTimes_int (.inl (.inl hq))
    have key : ∃ w : Int, take_sB [some (.ref n), some (.int m), x2, x3, x4, x5, x6] M = .ret (.int (w.fmod m)) M := by
      refine ⟨?_, ?_⟩
      rotate_left
      · simp [take_sB, sSeq, sIf, tBl, f2, fVar, fC, bag0 e, bag1 e, ha, sSet, fN, aCons, aNil, hm, hm2, sRet, sPass, tt]
        rfl
    obtain ⟨w, hw⟩ := key
    exact ⟨w.fmod m, M, hw, (nn w).1, (nn w).2, ⟨a, b, c, cells, e, ok⟩, Else.refl _ _⟩
theorem cut_map {α β : Type} (f : α → β) (xs : List α) (lo hi : Option Int) : cut (xs.map f) lo hi = (cut xs lo hi).map f := by
  unfold cut
  rw [List.length_map, ← List.map_drop, ← List.map_take]
theorem cut_mem {α : Type} {xs : List α} {lo hi : Option Int} {x : α} (h : x ∈ cut xs lo hi) : x ∈ xs := List.mem_of_mem_drop (List.mem_of_mem_take h)
theorem cut_len {α : Type} (xs : List α) (lo hi : Option Int) : (cut xs lo hi).length ≤ xs.length := by
  unfold cut
  rw [List.length_take, List.length_drop]
  omega
/-- the first half -/
theorem take_A {n : Nat} {M : MS} {m a b c : Int} {cells : List Int} (e : M[n]? = some (.lst (bagD a b c cells))) (ok : BagOk a b c cells) : ∃ a' b' c' x2 x3 M',
    take_sA [some (.ref n), some (.int m), none, none, none, none, none] M = .nx [some (.ref n), some (.int m), x2, x3, none, none, none] M' ∧ M'[n]? = some (.lst (bagD a' b' c' cells)) ∧ BagOk a' b' c' cells ∧ Else n M M' := by
  by_cases ha : a = 0
  · subst ha
    have hcell : ∃ x : Int, 0 ≤ x ∧ ((cut cells (some c) none).map D.int ++ [.int 0])[0]? = some (.int x) := by
      cases h : cut cells (some c) none with
      | nil => exact ⟨0, by omega, rfl⟩
      | cons y ys => exact ⟨y, ok.pos y (cut_mem (by rw [h]; exact List.mem_cons_self)), rfl⟩
    obtain ⟨x, hx0, hx⟩ := hcell
    have hl : ((cut cells (some c) none).map D.int).length + [D.int 0].length ≤ sizeLine := by
      have := cut_len cells (some c) none
      have := ok.len
      rw [sizeLine_eq]
      simp
      omega
    have h1 : ∀ M, aSl (.lst (cells.map .int)) (some c) none M = some (.lst ((cut cells (some c) none).map D.int)) := fun M => by
      simp [aSl, cut_map]
    have h2 : ∀ M, aPlus (.lst ((cut cells (some c) none).map D.int)) (.lst [.int 0]) M = some (.lst ((cut cells (some c) none).map D.int ++ [.int 0])) := fun M => by
      unfold aPlus aCat
      rw [lxOf_lst, lxOf_lst]
      simp only []
      rw [if_pos hl]
    have h3 : ∀ M, aIx (.lst ((cut cells (some c) none).map D.int ++ [.int 0])) (.int 0) M = some (.int x) := fun M => aIx_ls (i := 0) lsOf_lst hx
    have h4 : ∀ M, aPow (.int 10) (.int 18) M = some (.int 1000000000000000000) := fun M => by
      rw [aPow_int (by unfold CPow; decide)]
      rfl
    have hz : 1 ≤ sizeLine := by rw [sizeLine_eq]; decide
    have e1 := set_at (o := .lst (bagD 0 b (c + 1) cells)) e
    have n1 := fun z : Int => Int.fmod_nonneg_of_pos z (show (0 : Int) < 2147483647 by decide)
    have n2 := fun z : Int => Int.fmod_lt_of_pos z (show (0 : Int) < 2147483647 by decide)
    by_cases hbig : 1000000000000000000 ≤ x
    · have e2 := set_at (o := .lst (bagD x b (c + 1) cells)) e
      refine ⟨x, (b * 48271 + x.fmod 2147483647 + 7919 * (c + 1)).fmod 2147483647, c + 1, some (.int x), some (.int (b * 48271 + x.fmod 2147483647 + 7919 * (c + 1))), _, ?_, set_at e2, ⟨hx0, n1 _, n2 _, by have := ok.c0; omega, ok.pos, ok.len⟩, (Else.set _ _ _).trans (Else.set _ _ _)⟩
      simp [take_sA, sSeq, sIf, tBl, f2, fVar, fC, bag0 e, bag1 e, bag2 e, bag3 e, sSet, fN, aCons, aNil, sAsg, xSub, sPass, fSl, fOpt, fNone, fLst, nLst, hz, h1, h2, h3, sAugS, isRef, bagS2 e, bag0 e1, bag1 e1, bag2 e1, bagS0 e1, bag0 e2, bag1 e2, bag2 e2, bagS1 e2, hbig, h4]
    · refine ⟨0, (b * 48271 + x.fmod 2147483647 + 7919 * (c + 1)).fmod 2147483647, c + 1, some (.int x), some (.int (b * 48271 + x.fmod 2147483647 + 7919 * (c + 1))), _, ?_, set_at e1, ⟨by omega, n1 _, n2 _, by have := ok.c0; omega, ok.pos, ok.len⟩, (Else.set _ _ _).trans (Else.set _ _ _)⟩
      simp [take_sA, sSeq, sIf, tBl, f2, fVar, fC, bag0 e, bag1 e, bag2 e, bag3 e, sSet, fN, aCons, aNil, sAsg, xSub, sPass, fSl, fOpt, fNone, fLst, nLst, hz, h1, h2, h3, sAugS, isRef, bagS2 e, bag0 e1, bag1 e1, bag2 e1, bagS1 e1, hbig, h4]
  · refine ⟨a, b, c, none, none, M, ?_, e, ok, Else.refl _ _⟩
    simp [take_sA, sIf, tBl, f2, fVar, fC, bag0 e, ha, sPass]
theorem take_spec {n : Nat} {M : MS} {m : Int} (h : Bag n M) (h0 : 0 < m) (h1 : m < 2 ^ 30) : ∃ v M', F__law_take [.ref n, .int m] M = .ok (.int v) M' ∧ 0 ≤ v ∧ v < m ∧ Bag n M' ∧ Else n M M' := by
  obtain ⟨a, b, c, cells, e, ok⟩ := h
  obtain ⟨a', b', c', x2, x3, M1, e1, e2, e3, e4⟩ := take_A (m := m) e ok
  obtain ⟨v, M2, f1, f2, f3, f4, f5⟩ := take_B (x2 := x2) (x3 := x3) (x4 := none) (x5 := none) (x6 := none) e2 e3 h0 h1
  refine ⟨v, M2, ?_, f2, f3, f4, e4.trans f5⟩
  show (if [D.ref n, D.int m].length = 2 then outF retF M (s__law_take [some (.ref n), some (.int m), none, none, none, none, none] M) else .fail) = _
  rw [if_pos (show [D.ref n, D.int m].length = 2 from rfl), take_eq]
  show outF retF M (thenS (take_sA _ M) take_sB) = _
  rw [e1]
  show outF retF M (take_sB _ M1) = _
  rw [f1]
  show retF M M2 (.int v) = _
  exact retF_bag (e4.trans f5) f4 rfl
theorem lcF_pure {gs : List (Nat × List D)} {t : Gx} {c : Fx Bool} {f : Fx D} {η0 : Nv} {p : D → Bool} {h : D → D} {M : MS} (hg : gOk gs M) : ∀ {xs acc : List D}, (∀ x ∈ xs, ∃ η1, t x η0 M = .nx η1 M ∧ c η1 M = .ok (p x) M ∧ (p x = true → f η1 M = .ok (h x) M)) → acc.length + xs.length ≤ sizeLine →
    lcF gs t c f η0 xs acc M = .ok (acc ++ (xs.filter p).map h) M
  | [], acc, _, _ => by
    unfold lcF
    rw [gIfR_pos hg]
    simp
  | x :: xs, acc, hx, hl => by
    obtain ⟨η1, e1, e2, e3⟩ := hx x List.mem_cons_self
    unfold lcF
    rw [gIfR_pos hg, e1, thenF_nx, e2, bindF_ok]
    have ih := fun acc => lcF_pure hg (xs := xs) (acc := acc) fun y hy => hx y (List.mem_cons_of_mem _ hy)
    cases hp : p x with
    | true =>
      rw [if_pos rfl, e3 hp, bindF_ok, if_pos (by simp at hl; omega), ih _ (by simp at hl ⊢; omega)]
      simp [hp]
    | false =>
      rw [if_neg Bool.false_ne_true, ih _ (by simp at hl; omega)]
      simp [hp]
theorem bag_spec {ns : List Int} (hl : ns.length ≤ 63) : ∃ o, F__law_bag [.frl (ns.map .int)] [] = .ok (.ref 0) [o] ∧ Bag 0 [o] := by
  have h1 : ∀ M, aSl (.frl (ns.map .int)) none (some 63) M = some (.lst ((cut ns none (some 63)).map D.int)) := fun M => by simp [aSl, cut_map]
  have hz : 4 ≤ sizeLine := by rw [sizeLine_eq]; decide
  have hc := cut_len ns none (some 63)
  have h2 : lcF [] (xName 1) fYes (fN bAbs (aCons (fVar 1) aNil)) [some (.frl (ns.map .int)), none] ((cut ns none (some 63)).map D.int) [] [] = .ok (((cut ns none (some 63)).map fun i => if i < 0 then -i else i).map .int) [] := by
    rw [lcF_pure (p := fun _ => true) (h := fun d => match d with | .int i => .int (if i < 0 then -i else i) | d => d) gOk_nil (fun x hx => ?_) (by rw [sizeLine_eq]; simp; omega)]
    · rw [List.filter_eq_self.mpr (fun _ _ => rfl), List.map_map, List.map_map]
      rfl
    · obtain ⟨i, _, rfl⟩ := List.mem_map.mp hx
      exact ⟨_, rfl, rfl, fun _ => by simp [fN, aCons, aNil, fVar]⟩
  refine ⟨.lst (bagD 0 1234567891 0 ((cut ns none (some 63)).map fun i => if i < 0 then -i else i)), ?_, ⟨_, _, _, _, rfl, ⟨by omega, by omega, by omega, by omega, fun x hx => ?_, by simp; omega⟩⟩⟩
  · have e : s__law_bag [some (.frl (ns.map .int)), none] [] = .ret (.ref 0) [.lst (bagD 0 1234567891 0 ((cut ns none (some 63)).map fun i => if i < 0 then -i else i))] := by
      simp [s__law_bag, sRet, fBox, nLst, aCons, fC, fLst, nLc, fSrc, fSl, fVar, fNone, fOpt, h1, srcOf, seqOf, gsOf, wipeN, h2, aNil, hz, bagD]
    show (if [D.frl (ns.map .int)].length = 1 then outF retB [] (s__law_bag [some (.frl (ns.map .int)), none] []) else .fail) = _
    rw [if_pos (show [D.frl (ns.map .int)].length = 1 from rfl), e]
    simp [outF, retB, MO.cl, Kept]
  · obtain ⟨i, _, rfl⟩ := List.mem_map.mp hx
    split <;> omega
theorem some_spec {n : Nat} {M : MS} {x : D} {xs : List D} (h : Bag n M) (hx : (∀ M, lsOf M x = some xs) ∨ (x = .tup xs)) (h0 : 0 < xs.length) (h1 : xs.length < 2 ^ 30) (hc : ∀ k, cls k xs = true) : ∃ d M', F__law_some [.ref n, x] M = .ok d M' ∧ d ∈ xs ∧ Bag n M' ∧ Else n M M' := by
  obtain ⟨v, M1, e1, v0, v1, b1, l1⟩ := take_spec (m := (xs.length : Nat)) h (by omega) (by omega)
  have hlen : ∀ M, bLen [x] M = some (.int (xs.length : Nat)) := fun M => by
    rcases hx with hx | rfl
    · have : lenD M x = some xs.length := by
        cases x with
        | str s => have := hx M; simp at this
        | _ => simp [lenD, seqOf, hx M]
      simp [bLen, this]
    · simp [bLen, lenD, seqOf]
  obtain ⟨k, rfl⟩ : ∃ k : Nat, v = (k : Int) := ⟨v.toNat, by omega⟩
  have hk : k < xs.length := by omega
  have hix : ∀ M, aIx x (.int (k : Int)) M = some xs[k] := fun M => by
    rcases hx with hx | rfl
    · exact aIx_ls (hx M) (List.getElem?_eq_getElem hk)
    · exact aIx_tp rfl rfl (List.getElem?_eq_getElem hk)
  have e : s__law_some [some (.ref n), some x] M = .ret xs[k] M1 := by
    simp [s__law_some, sRet, f2, fVar, fCall, aCons, aNil, fN, hlen, e1, hix]
  refine ⟨xs[k], M1, ?_, List.getElem_mem hk, b1, l1⟩
  show (if [D.ref n, x].length = 2 then outF retF M (s__law_some [some (.ref n), some x] M) else .fail) = _
  rw [if_pos (show [D.ref n, x].length = 2 from rfl), e]
  show retF M M1 xs[k] = _
  exact retF_bag l1 b1 (cls_iff.mp (hc _) _ (List.getElem_mem hk))
end NV
end
section
set_option Elab.async false
set_option linter.all false
set_option maxRecDepth 100000
set_option maxHeartbeats 4000000
namespace NV
open PySem PySem.Spec L2
/-! ### _law_alike of the same thing twice -/
mutual
def D.nodes : D → Nat
  | .tup xs => 1 + nodesL xs
  | .lst xs => 1 + nodesL xs
  | .frl xs => 1 + nodesL xs
  | .frt xs => 1 + nodesL xs
  | _ => 1
def nodesL : List D → Nat
  | [] => 0
  | x :: xs => D.nodes x + nodesL xs
end
def kids : D → Option (List D)
  | .tup xs => some xs
  | .lst xs => some xs
  | .frl xs => some xs
  | .frt xs => some xs
  | _ => none
theorem nodes_kids {d : D} {xs : List D} (h : kids d = some xs) : d.nodes = 1 + nodesL xs := by
  cases d <;> first | (cases h; rfl) | cases h
theorem nodes_pos (d : D) : 1 ≤ d.nodes := by
  cases d <;> simp [D.nodes]
theorem nodesL_append : ∀ xs ys : List D, nodesL (xs ++ ys) = nodesL xs + nodesL ys
  | [], ys => by simp [nodesL]
  | x :: xs, ys => by simp [nodesL, nodesL_append xs ys]; omega
theorem nodesL_len : ∀ xs : List D, xs.length ≤ nodesL xs
  | [] => Nat.zero_le _
  | x :: xs => by
    have := nodesL_len xs
    have := nodes_pos x
    simp [nodesL]
    omega
theorem kids_plain {d : D} {xs : List D} (h : kids d = some xs) (p : d.plain = true) : plains xs = true := by
  cases d <;> first | (cases h; exact p) | cases h
def twin (d : D) : D := .tup [d, d]
noncomputable def alike_c : Fx Bool := (tBl (f2 cLt (fVar 3) (fN bLen (aCons (fVar 2) aNil))))
noncomputable def alike_b : Sx := (sSeq (sAsg (f2 aIx (fVar 2) (fVar 3)) (xTup 2 (xCons (xName 4) (xCons (xName 5) xNil))))
  (sSeq (sAug 3 aAddI (fC (.int 1)))
  (sSeq (sIf (tOrF (tBl (f2 aNe (fN bIsi (aCons (fVar 4) (aCons (fC (.ty "bool")) aNil))) (fN bIsi (aCons (fVar 5) (aCons (fC (.ty "bool")) aNil))))) (tBl (f2 aNe (fN bIsi (aCons (fVar 4) (aCons (fC (.ty "str")) aNil))) (fN bIsi (aCons (fVar 5) (aCons (fC (.ty "str")) aNil)))))) (sRet (fC (.bl false))) sPass)
  (sSeq (sIf (tBl (f2 aNe (fN bIsi (aCons (fVar 4) (aCons (fTup (aCons (fC (.ty "tuple")) (aCons (fC (.ty "list")) aNil))) aNil))) (fN bIsi (aCons (fVar 5) (aCons (fTup (aCons (fC (.ty "tuple")) (aCons (fC (.ty "list")) aNil))) aNil))))) (sRet (fC (.bl false))) sPass)
  (sIf (fTru (fN bIsi (aCons (fVar 4) (aCons (fTup (aCons (fC (.ty "tuple")) (aCons (fC (.ty "list")) aNil))) aNil)))) (sSeq (sIf (tOrF (tBl (f2 aNe (fN bIsi (aCons (fVar 4) (aCons (fC (.ty "tuple")) aNil))) (fN bIsi (aCons (fVar 5) (aCons (fC (.ty "tuple")) aNil))))) (tBl (f2 aNe (fN bLen (aCons (fVar 4) aNil)) (fN bLen (aCons (fVar 5) aNil))))) (sRet (fC (.bl false))) sPass)
  (sExpr (fM "list" mExtend (fVar 2) (aCons (fLst (nN bZip (aCons (fVar 4) (aCons (fVar 5) aNil)))) aNil)))) (sIf (tBl (f2 aNe (fVar 4) (fVar 5))) (sRet (fC (.bl false))) sPass))))))
theorem alike_eq : s__law_alike = sSeq (sPar 2 3 (aCons (fBox (nLst (aCons (fTup (aCons (fVar 0) (aCons (fVar 1) aNil))) aNil))) (aCons (fC (.int 0)) aNil))) (sSeq (sWhile alike_c alike_b fuel) (sRet (fC (.bl true)))) := rfl
theorem tyD_plain {M : MS} {d : D} (p : d.plain = true) : ∃ T, tyD M d = some T := by
  cases d <;> first | exact ⟨_, rfl⟩ | cases p
theorem isi1 {M : MS} {d : D} (p : d.plain = true) {t : String} (ht : t ∈ isC) : ∃ b, bIsi [d, .ty t] M = some (.bl b) := by
  obtain ⟨T, h⟩ := tyD_plain (M := M) p
  exact ⟨isB T t, by simp [bIsi, h, ht]⟩
theorem isi2 {M : MS} {d : D} (p : d.plain = true) : bIsi [d, .tup [.ty "tuple", .ty "list"]] M = some (.bl (kids d).isSome) := by
  cases d <;> first | (simp [bIsi, tyD, tysOf, isC, isB, kids]; done) | cases p
theorem len_kids {M : MS} {d : D} {xs : List D} (h : kids d = some xs) : bLen [d] M = some (.int xs.length) := by
  cases d <;> first | (cases h; rfl) | cases h
theorem zip_kids {M : MS} {d : D} {xs : List D} (h : kids d = some xs) : bZip [d, d] M = some (xs.map twin) := by
  have z : ((xs.zip xs).map pairD) = xs.map twin := by
    clear h
    induction xs with
    | nil => rfl
    | cons x xs ih => simp [pairD, twin, ← ih]
  cases d <;> first | (cases h; simp [bZip, z]) | cases h
theorem ne_self {M : MS} {d : D} (p : d.plain = true) (h : kids d = none) : aNe d d M = some (.bl false) := by
  cases d <;> first | (simp [aNe, PyData.depth, PyData.eqv]; done) | exact absurd p Bool.false_ne_true | cases h
theorem alike_step {M : MS} {d0 : D} {L : List D} {i : Nat} {d : D} {x4 x5 : Option D} (hd : L[i]? = some d) (p : d.plain = true) (hl : L.length + ((kids d).getD []).length ≤ sizeLine) :
    alike_b [some d0, some d0, some (.ref M.length), some (.int (i : Nat)), x4, x5] (M ++ [.lst (L.map twin)]) = .nx [some d0, some d0, some (.ref M.length), some (.int ((i : Nat) + 1)), some d, some d] (M ++ [.lst ((L ++ (kids d).getD []).map twin)]) := by
  have hx : ∀ (o : List D), (M ++ [.lst o])[M.length]? = some (.lst o) := fun o => by simp
  have h1 : aIx (.ref M.length) (.int (i : Nat)) (M ++ [.lst (L.map twin)]) = some (twin d) := aIx_ls (lsOf_ref (hx _)) (by rw [List.getElem?_map, hd]; rfl)
  obtain ⟨b1, e1⟩ := isi1 (M := M ++ [.lst (L.map twin)]) p (t := "bool") (by decide)
  obtain ⟨b2, e2⟩ := isi1 (M := M ++ [.lst (L.map twin)]) p (t := "str") (by decide)
  obtain ⟨b3, e3⟩ := isi1 (M := M ++ [.lst (L.map twin)]) p (t := "tuple") (by decide)
  have e4 := isi2 (M := M ++ [.lst (L.map twin)]) p
  have z2 : 2 ≤ sizeLine := by rw [sizeLine_eq]; decide
  cases hk : kids d with
  | none =>
    rw [hk] at e4
    simp [alike_b, sSeq, sAsg, f2, fVar, h1, xTup, twin, xCons, xName, xNil, sPass, sAug, fC, sIf, tOrF, tBl, fN, aCons, aNil, e1, e2, e4, fTup, z2, fTru, tru, ne_self p hk, sRet]
  | some xs =>
    rw [hk] at e4 hl
    have e5 := len_kids (M := M ++ [.lst (L.map twin)]) hk
    have e6 := zip_kids (M := M ++ [.lst (L.map twin)]) hk
    have e7 : mExtend (.ref M.length) [.lst (xs.map twin)] (M ++ [.lst (L.map twin)]) = some (.non, M ++ [.lst ((L ++ xs).map twin)]) := by
      have hl : L.length + xs.length ≤ sizeLine := hl
      simp [mExtend, bxL, hl]
    simp [alike_b, sSeq, sAsg, f2, fVar, h1, xTup, twin, xCons, xName, xNil, sPass, sAug, fC, sIf, tOrF, tBl, fN, aCons, aNil, e1, e2, e3, e4, e5, fTup, z2, fTru, tru, sExpr, fM, tyW, fLst, nN, e6, e7]
theorem alike_loop {M : MS} {d0 : D} : ∀ (w n : Nat) (L : List D) (i : Nat) (x4 x5 : Option D), nodesL (L.drop i) = w → i ≤ L.length → w < n → plains L = true → i + w ≤ sizeLine →
    ∃ η' o, sWhile alike_c alike_b n [some d0, some d0, some (.ref M.length), some (.int (i : Nat)), x4, x5] (M ++ [.lst (L.map twin)]) = .nx η' (M ++ [o]) := by
  intro w
  induction w using Nat.strongRecOn with
  | _ w ih =>
    intro n L i x4 x5 hw hi hn hp hs
    obtain ⟨m, rfl⟩ : ∃ m, n = m + 1 := ⟨n - 1, by omega⟩
    have hc : alike_c [some d0, some d0, some (.ref M.length), some (.int (i : Nat)), x4, x5] (M ++ [.lst (L.map twin)]) = .ok (decide (i < L.length)) (M ++ [.lst (L.map twin)]) := by
      have : lsOf (M ++ [.lst (L.map twin)]) (.ref M.length) = some (L.map twin) := lsOf_ref (by simp)
      simp [alike_c, tBl, f2, fVar, fN, aCons, aNil, bLen, lenD, seqOf, this]
    unfold sWhile
    rw [hc, bindS_ok]
    by_cases hlt : i < L.length
    · rw [if_pos (decide_eq_true hlt)]
      have hd : L[i]? = some L[i] := List.getElem?_eq_getElem hlt
      have hpd : (L[i]).plain = true := plains_iff.mp hp _ (List.getElem_mem hlt)
      have hdrop : L.drop i = L[i] :: L.drop (i + 1) := List.drop_eq_getElem_cons hlt
      have hw2 : w = (L[i]).nodes + nodesL (L.drop (i + 1)) := by rw [← hw, hdrop, nodesL]
      have hlen := nodesL_len (L.drop (i + 1))
      rw [List.length_drop] at hlen
      have hpos := nodes_pos L[i]
      have hk : (L[i]).nodes = 1 + nodesL ((kids L[i]).getD []) := by
        cases h : kids L[i] with
        | none =>
          have : (L[i]).nodes = 1 := by
            revert h
            generalize L[i] = d
            intro h
            cases d <;> first | rfl | cases h
          rw [this]
          rfl
        | some xs => exact nodes_kids h
      have hkl := nodesL_len ((kids L[i]).getD [])
      rw [alike_step hd hpd (by omega), turnS_nx]
      have hp2 : plains (L ++ (kids L[i]).getD []) = true := by
        rw [plains_append, hp]
        cases h : kids L[i] with
        | none => rfl
        | some xs => simpa using kids_plain h hpd
      have hd2 : nodesL ((L ++ (kids L[i]).getD []).drop (i + 1)) = w - 1 := by
        rw [List.drop_append_of_le_length (by omega), nodesL_append]
        omega
      exact ih (w - 1) (by omega) m (L ++ (kids L[i]).getD []) (i + 1) _ _ hd2 (by rw [List.length_append]; omega) (by omega) hp2 (by omega)
    · rw [if_neg (by simp [hlt])]
      exact ⟨_, _, rfl⟩
/-- the same thing twice -/
theorem alike_spec {M : MS} {d : D} (hp : d.plain = true) (hn : d.nodes ≤ sizeLine) : F__law_alike [d, d] M = .ok (.bl true) M := by
  have z1 : 1 ≤ sizeLine := by rw [sizeLine_eq]; decide
  have z2 : 2 ≤ sizeLine := by rw [sizeLine_eq]; decide
  obtain ⟨η', o, e⟩ := alike_loop (M := M) (d0 := d) d.nodes fuel [d] 0 none none (by simp [nodesL]) (by simp) (by rw [sizeLine_eq] at hn; unfold fuel; omega) (by simp [hp]) (by omega)
  show (if [d, d].length = 2 then outF retF M (s__law_alike [some d, some d, none, none, none, none] M) else .fail) = _
  rw [if_pos (show [d, d].length = 2 from rfl), alike_eq]
  have e0 : s__law_alike [some d, some d, none, none, none, none] M = .ret (.bl true) (M ++ [o]) := by
    rw [alike_eq]
    simp only [sSeq]
    have e1 : sPar 2 3 (aCons (fBox (nLst (aCons (fTup (aCons (fVar 0) (aCons (fVar 1) aNil))) aNil))) (aCons (fC (.int 0)) aNil)) [some d, some d, none, none, none, none] M = .nx [some d, some d, some (.ref M.length), some (.int (0 : Nat)), none, none] (M ++ [.lst ([d].map twin)]) := by
      simp [sPar, aCons, fBox, nLst, fTup, fVar, aNil, fC, z1, z2, twin]
    rw [e1, thenS_nx]
    show thenS (sWhile alike_c alike_b fuel _ _) _ = _
    rw [e]
    simp [sRet, fC]
  rw [← alike_eq, e0]
  show retF M (M ++ [o]) (.bl true) = _
  exact retF_app rfl
end NV
end
section
set_option Elab.async false
set_option linter.all false
set_option maxRecDepth 100000
set_option maxHeartbeats 0
set_option autoImplicit false
namespace Lk01
open PySem PySem.Spec L2 NV
def ds_RESERVED : List D := [.str "by", .str "from", .str "move", .str "of", .str "reads", .str "secret", .str "sign", .str "sounds", .str "state", .str "to", .str "word"]
noncomputable def s__law_word : Sx := (sSeq (sSet 1 (fLst (nLst (aCons (fC (.str "a")) (aCons (fC (.str "zz")) (aCons (fC (.str "by")) (aCons (fC (.str "from")) (aCons (fC (.str "move")) (aCons (fC (.str "of")) (aCons (fC (.str "reads")) (aCons (fC (.str "secret")) (aCons (fC (.str "sign")) (aCons (fC (.str "sounds")) (aCons (fC (.str "state")) (aCons (fC (.str "to")) (aCons (fC (.str "word")) (aCons (fC (.str "abcdefgh")) (aCons (fC (.str "abcdefghi")) aNil))))))))))))))))))
  (sRet (fCall 2 F__law_some (aCons (fVar 0) (aCons (f2 aPlus (fVar 1) (fLst (nLst (aCons (fC (.str "")) (aCons (fC (.str "A")) (aCons (fC (.str "a1")) (aCons (fC (.str "a ")) (aCons (fC (.str "ofs")) (aCons (fC (.str "a-b")) (aCons (fC .non) (aCons (fC (.int 7)) (aCons (fC (.bl true)) (aCons (fTup (aCons (fC (.str "a")) aNil)) (aCons (fLst (nLst (aCons (fC (.str "a")) aNil))) aNil)))))))))))))) aNil)))))
noncomputable def F__law_word : List D → MS → Res D := bodyF retF 1 2 s__law_word
noncomputable def s__law_are_unlike : Sx := (sRet (f2 aEq (fLst (nLc [1] (fRng rng1 (aCons (fN bLen (aCons (fVar 0) aNil)) aNil)) (xName 1) (tBl (f2 cIn (f2 aIx (fVar 0) (fVar 1)) (fSl (fVar 0) fNone (fOpt (fVar 1))))) (fC (.int 1)))) (fLst (nLst aNil))))
noncomputable def F__law_are_unlike : List D → MS → Res D := bodyF retF 1 2 s__law_are_unlike
noncomputable def s_is_integer : Sx := (sRet (fAnd (fN bIsi (aCons (fVar 0) (aCons (fC (.ty "int")) aNil))) (fNot (fN bIsi (aCons (fVar 0) (aCons (fC (.ty "bool")) aNil))))))
noncomputable def F_is_integer : List D → MS → Res D := bodyF retF 1 1 s_is_integer
noncomputable def s_is_within : Sx := (sRet (fAnd (fCall 1 F_is_integer (aCons (fVar 0) aNil)) (fChain cLe cLe (fVar 1) (fVar 0) (fVar 2))))
noncomputable def F_is_within : List D → MS → Res D := bodyF retF 3 3 s_is_within
noncomputable def s_is_name : Sx := (sSeq (sIf (tOrF (tNotF (fTru (fN bIsi (aCons (fVar 0) (aCons (fC (.ty "str")) aNil))))) (tOrF (tNotF (tBl (fChain cLe cLe (fC (.int 1)) (fN bLen (aCons (fVar 0) aNil)) (fC (.int 8))))) (tBl (f2 cIn (fVar 0) (fC (.frt ds_RESERVED)))))) (sRet (fC (.bl false))) sPass)
  (sRet (fN bAll (aCons (fLst (nLc [1] (fSrc (fVar 0)) (xName 1) fYes (f2 cIn (fVar 1) (fC (.str "abcdefghijklmnopqrstuvwxyz"))))) aNil))))
noncomputable def F_is_name : List D → MS → Res D := bodyF retF 1 2 s_is_name
noncomputable def s_are_names : Sx := (sSeq (sIf (tOrF (tNotF (fTru (fN bIsi (aCons (fVar 0) (aCons (fC (.ty "tuple")) aNil))))) (tOrF (tNotF (tBl (fChain cLe cLe (fVar 1) (fN bLen (aCons (fVar 0) aNil)) (fVar 2)))) (tNotF (fTru (fN bAll (aCons (fLst (nLc [3] (fSrc (fVar 0)) (xName 3) fYes (fCall 1 F_is_name (aCons (fVar 3) aNil)))) aNil)))))) (sRet (fC (.bl false))) sPass)
  (sRet (f2 aEq (fN bLen (aCons (oFrz (oDc [3] (fSrc (fVar 0)) (xName 3) fYes (fVar 3) (fC (.bl true)))) aNil)) (fN bLen (aCons (fVar 0) aNil)))))
noncomputable def F_are_names : List D → MS → Res D := bodyF retF 3 4 s_are_names
noncomputable def s__law_is_name : Sx := (sSeq (sSet 1 (fTup (aCons (fC (.str "by")) (aCons (fC (.str "from")) (aCons (fC (.str "move")) (aCons (fC (.str "of")) (aCons (fC (.str "reads")) (aCons (fC (.str "secret")) (aCons (fC (.str "sign")) (aCons (fC (.str "sounds")) (aCons (fC (.str "state")) (aCons (fC (.str "to")) (aCons (fC (.str "word")) aNil)))))))))))))
  (sSeq (sIf (tOrF (tNotF (fTru (fN bIsi (aCons (fVar 0) (aCons (fC (.ty "str")) aNil))))) (tOrF (tNotF (tBl (fChain cLe cLe (fC (.int 1)) (fN bLen (aCons (fVar 0) aNil)) (fC (.int 8))))) (tBl (f2 cIn (fVar 0) (fVar 1))))) (sRet (fC (.bl false))) sPass)
  (sRet (f2 aEq (fLst (nLc [2] (fSrc (fVar 0)) (xName 2) (tBl (f2 cNotIn (fVar 2) (fC (.str "abcdefghijklmnopqrstuvwxyz")))) (fC (.int 1)))) (fLst (nLst aNil))))))
noncomputable def F__law_is_name : List D → MS → Res D := bodyF retF 1 3 s__law_is_name
noncomputable def s__law_is_int : Sx := (sRet (fAnd (fN bIsi (aCons (fVar 0) (aCons (fC (.ty "int")) aNil))) (fNot (fN bIsi (aCons (fVar 0) (aCons (fC (.ty "bool")) aNil))))))
noncomputable def F__law_is_int : List D → MS → Res D := bodyF retF 1 1 s__law_is_int
noncomputable def s_are_some_of : Sx := (sRet (fAnd (fCall 3 F_are_names (aCons (fVar 0) (aCons (fC (.int 1)) (aCons (fN bLen (aCons (fVar 1) aNil)) aNil)))) (fN bAll (aCons (fLst (nLc [2] (fSrc (fVar 0)) (xName 2) fYes (f2 cIn (fVar 2) (fVar 1)))) aNil))))
noncomputable def F_are_some_of : List D → MS → Res D := bodyF retF 2 3 s_are_some_of
noncomputable def s_is_lot : Sx := (sRet (fOr (f2 aEq (fVar 0) (fTup aNil)) (fAnd (fCall 2 F_are_some_of (aCons (fVar 0) (aCons (fVar 1) aNil))) (f2 aEq (fLst (nN bList (aCons (fVar 0) aNil))) (fLst (nN bSorted (aCons (fVar 0) aNil)))))))
noncomputable def F_is_lot : List D → MS → Res D := bodyF retF 2 2 s_is_lot
noncomputable def s_law : Sx := (sSeq (sSet 1 (fCall 1 F__law_bag (aCons (fVar 0) aNil)))
  (sSeq (sFor (fRng rng1 (aCons (fC (.int 10)) aNil)) (xName 2) (sSeq (sPar 3 4 (aCons (fCall 1 F__law_word (aCons (fVar 1) aNil)) (aCons (fCall 2 F__law_some (aCons (fVar 1) (aCons (fLst (nLst (aCons (fC (.int 0)) (aCons (fC (.int 1)) (aCons (f1 aNeg (fC (.int 1))) (aCons (fC (.int 7)) (aCons (fC (.bl true)) (aCons (fC (.bl false)) (aCons (fC .non) (aCons (fC (.str "1")) (aCons (f2 aPow (fC (.int 10)) (fC (.int 40))) (aCons (f1 aNeg (f2 aPow (fC (.int 10)) (fC (.int 40)))) (aCons (fTup (aCons (fC (.int 1)) aNil)) aNil))))))))))))) aNil))) aNil)))
  (sSeq (sPar 5 6 (aCons (f2 aSub (fCall 2 F__law_take (aCons (fVar 1) (aCons (fC (.int 4)) aNil))) (fC (.int 1))) (aCons (fCall 2 F__law_take (aCons (fVar 1) (aCons (fC (.int 9)) aNil))) aNil)))
  (sSeq (sIf (tOrF (tNotF (fTru (fCall 2 F__law_alike (aCons (fCall 1 F_is_name (aCons (fVar 3) aNil)) (aCons (fCall 1 F__law_is_name (aCons (fVar 3) aNil)) aNil))))) (tNotF (fTru (fCall 2 F__law_alike (aCons (fCall 1 F_is_integer (aCons (fVar 4) aNil)) (aCons (fCall 1 F__law_is_int (aCons (fVar 4) aNil)) aNil)))))) (sRet (fC (.bl false))) sPass)
  (sSeq (sIf (tNotF (fTru (fCall 2 F__law_alike (aCons (fCall 3 F_is_within (aCons (fVar 4) (aCons (fVar 5) (aCons (fVar 6) aNil)))) (aCons (fAnd (fCall 1 F__law_is_int (aCons (fVar 4) aNil)) (fChain cLe cLe (fVar 5) (fVar 4) (fVar 6))) aNil))))) (sRet (fC (.bl false))) sPass)
  (sSeq (sSet 7 (fN bTup (aCons (fLst (nLc [15] (fRng rng1 (aCons (fCall 2 F__law_take (aCons (fVar 1) (aCons (fC (.int 4)) aNil))) aNil)) (xName 15) fYes (fCall 1 F__law_word (aCons (fVar 1) aNil)))) aNil)))
  (sSeq (sSet 8 (fAnd (f2 aEq (fLst (nLc [16] (fSrc (fVar 7)) (xName 16) (tNotF (fTru (fCall 1 F__law_is_name (aCons (fVar 16) aNil)))) (fC (.int 1)))) (fLst (nLst aNil))) (fCall 1 F__law_are_unlike (aCons (fVar 7) aNil))))
  (sSeq (sFor (fSrc (fTup (aCons (fVar 7) (aCons (fLst (nN bList (aCons (fVar 7) aNil))) (aCons (fC .non) (aCons (f2 aPlus (fVar 7) (fVar 7)) (aCons (fC (.str "ab")) aNil))))))) (xName 9) (sSeq (sSet 10 (fAnd (fN bIsi (aCons (fVar 9) (aCons (fC (.ty "tuple")) aNil))) (f2 aEq (fLst (nLc [16] (fSrc (fVar 9)) (xName 16) (tNotF (fTru (fCall 1 F__law_is_name (aCons (fVar 16) aNil)))) (fC (.int 1)))) (fLst (nLst aNil)))))
  (sSeq (sSet 10 (fAnd (fVar 10) (fAnd (fCall 1 F__law_are_unlike (aCons (fVar 9) aNil)) (fChain cLe cLe (fVar 5) (fN bLen (aCons (fVar 9) aNil)) (fVar 6)))))
  (sIf (tNotF (fTru (fCall 2 F__law_alike (aCons (fCall 3 F_are_names (aCons (fVar 9) (aCons (fVar 5) (aCons (fVar 6) aNil)))) (aCons (fVar 10) aNil))))) (sRet (fC (.bl false))) sPass))))
  (sSeq (sSet 11 (fSl (fTup (aCons (fC (.str "ab")) (aCons (fC (.str "q")) (aCons (fC (.str "a")) (aCons (fC (.str "zz")) aNil))))) fNone (fOpt (f2 aPlus (fC (.int 1)) (fCall 2 F__law_take (aCons (fVar 1) (aCons (fC (.int 4)) aNil)))))))
  (sSeq (sSet 12 (fN bTup (aCons (fLst (nLc [15] (fRng rng1 (aCons (fCall 2 F__law_take (aCons (fVar 1) (aCons (fC (.int 4)) aNil))) aNil)) (xName 15) fYes (fCall 2 F__law_some (aCons (fVar 1) (aCons (f2 aPlus (fLst (nN bList (aCons (fVar 11) aNil))) (fLst (nLst (aCons (fC .non) (aCons (fC (.str "x")) aNil))))) aNil))))) aNil)))
  (sSeq (sFor (fSrc (fTup (aCons (fVar 12) (aCons (fLst (nN bList (aCons (fVar 12) aNil))) (aCons (fN bTup (aCons (fLst (nN bSorted (aCons (fVar 11) aNil))) aNil)) (aCons (fVar 11) (aCons (fTup aNil) (aCons (fC .non) (aCons (f2 aPlus (fVar 11) (fSl (fVar 11) fNone (fOpt (fC (.int 1))))) aNil))))))))) (xName 9) (sSeq (sSet 13 (fAnd (fN bIsi (aCons (fVar 9) (aCons (fC (.ty "tuple")) aNil))) (f2 aEq (fLst (nLc [16] (fSrc (fVar 9)) (xName 16) (tBl (f2 cNotIn (fVar 16) (fVar 11))) (fC (.int 1)))) (fLst (nLst aNil)))))
  (sSeq (sSet 14 (fAnd (fVar 13) (fCall 1 F__law_are_unlike (aCons (fVar 9) aNil))))
  (sSeq (sIf (tNotF (fTru (fCall 2 F__law_alike (aCons (fCall 2 F_are_some_of (aCons (fVar 9) (aCons (fVar 11) aNil))) (aCons (fAnd (fVar 14) (f2 aNe (fVar 9) (fTup aNil))) aNil))))) (sRet (fC (.bl false))) sPass)
  (sIf (tNotF (fTru (fCall 2 F__law_alike (aCons (fCall 2 F_is_lot (aCons (fVar 9) (aCons (fVar 11) aNil))) (aCons (fAnd (fVar 14) (f2 aEq (fLst (nN bList (aCons (fVar 9) aNil))) (fLst (nN bSorted (aCons (fVar 9) aNil))))) aNil))))) (sRet (fC (.bl false))) sPass)))))
  (sIf (tBl (f2 aNe (fVar 8) (f2 cIs (fCall 3 F_are_names (aCons (fVar 7) (aCons (fC (.int 0)) (aCons (fC (.int 9)) aNil)))) (fC (.bl true))))) (sRet (fC (.bl false))) sPass))))))))))))
  (sRet (fC (.bl true)))))
noncomputable def F_law : List D → MS → Res D := bodyF retF 1 17 s_law
end Lk01
end
section
set_option Elab.async false
set_option linter.all false
set_option maxRecDepth 100000
set_option maxHeartbeats 0
set_option autoImplicit false
namespace Lk01
open PySem PySem.Spec L2 NV
abbrev top (i : Nat) : Stmt := PySem.Challenge.pw_neversure_k01_forms_of_any_values.main.body.getD i (.Pass ⟨0, 0, 0, 0⟩)
theorem nd_LETTERS : (("LETTERS" : Str) == ("__debug__" : Str)) = false := by decide +kernel
theorem nc_LETTERS : (("LETTERS" : Str) == ("__classdict__" : Str)) = false := by decide +kernel
theorem nd_MOST_NAME : (("MOST_NAME" : Str) == ("__debug__" : Str)) = false := by decide +kernel
theorem nc_MOST_NAME : (("MOST_NAME" : Str) == ("__classdict__" : Str)) = false := by decide +kernel
theorem nd_RESERVED : (("RESERVED" : Str) == ("__debug__" : Str)) = false := by decide +kernel
theorem nc_RESERVED : (("RESERVED" : Str) == ("__classdict__" : Str)) = false := by decide +kernel
theorem nd__law_alike : (("_law_alike" : Str) == ("__debug__" : Str)) = false := by decide +kernel
theorem nc__law_alike : (("_law_alike" : Str) == ("__classdict__" : Str)) = false := by decide +kernel
theorem nd__law_are_unlike : (("_law_are_unlike" : Str) == ("__debug__" : Str)) = false := by decide +kernel
theorem nc__law_are_unlike : (("_law_are_unlike" : Str) == ("__classdict__" : Str)) = false := by decide +kernel
theorem nd__law_bag : (("_law_bag" : Str) == ("__debug__" : Str)) = false := by decide +kernel
theorem nc__law_bag : (("_law_bag" : Str) == ("__classdict__" : Str)) = false := by decide +kernel
theorem nd__law_is_int : (("_law_is_int" : Str) == ("__debug__" : Str)) = false := by decide +kernel
theorem nc__law_is_int : (("_law_is_int" : Str) == ("__classdict__" : Str)) = false := by decide +kernel
theorem nd__law_is_name : (("_law_is_name" : Str) == ("__debug__" : Str)) = false := by decide +kernel
theorem nc__law_is_name : (("_law_is_name" : Str) == ("__classdict__" : Str)) = false := by decide +kernel
theorem nd__law_some : (("_law_some" : Str) == ("__debug__" : Str)) = false := by decide +kernel
theorem nc__law_some : (("_law_some" : Str) == ("__classdict__" : Str)) = false := by decide +kernel
theorem nd__law_take : (("_law_take" : Str) == ("__debug__" : Str)) = false := by decide +kernel
theorem nc__law_take : (("_law_take" : Str) == ("__classdict__" : Str)) = false := by decide +kernel
theorem nd__law_word : (("_law_word" : Str) == ("__debug__" : Str)) = false := by decide +kernel
theorem nc__law_word : (("_law_word" : Str) == ("__classdict__" : Str)) = false := by decide +kernel
theorem nd_abs : (("abs" : Str) == ("__debug__" : Str)) = false := by decide +kernel
theorem nc_abs : (("abs" : Str) == ("__classdict__" : Str)) = false := by decide +kernel
theorem nd_all : (("all" : Str) == ("__debug__" : Str)) = false := by decide +kernel
theorem nc_all : (("all" : Str) == ("__classdict__" : Str)) = false := by decide +kernel
theorem nd_are_names : (("are_names" : Str) == ("__debug__" : Str)) = false := by decide +kernel
theorem nc_are_names : (("are_names" : Str) == ("__classdict__" : Str)) = false := by decide +kernel
theorem nd_are_some_of : (("are_some_of" : Str) == ("__debug__" : Str)) = false := by decide +kernel
theorem nc_are_some_of : (("are_some_of" : Str) == ("__classdict__" : Str)) = false := by decide +kernel
theorem nd_at : (("at" : Str) == ("__debug__" : Str)) = false := by decide +kernel
theorem nc_at : (("at" : Str) == ("__classdict__" : Str)) = false := by decide +kernel
theorem nd_bag : (("bag" : Str) == ("__debug__" : Str)) = false := by decide +kernel
theorem nc_bag : (("bag" : Str) == ("__classdict__" : Str)) = false := by decide +kernel
theorem nd_begin : (("begin" : Str) == ("__debug__" : Str)) = false := by decide +kernel
theorem nc_begin : (("begin" : Str) == ("__classdict__" : Str)) = false := by decide +kernel
theorem nd_bool : (("bool" : Str) == ("__debug__" : Str)) = false := by decide +kernel
theorem nc_bool : (("bool" : Str) == ("__classdict__" : Str)) = false := by decide +kernel
theorem nd_cell : (("cell" : Str) == ("__debug__" : Str)) = false := by decide +kernel
theorem nc_cell : (("cell" : Str) == ("__classdict__" : Str)) = false := by decide +kernel
theorem nd_due : (("due" : Str) == ("__debug__" : Str)) = false := by decide +kernel
theorem nc_due : (("due" : Str) == ("__classdict__" : Str)) = false := by decide +kernel
theorem nd_found : (("found" : Str) == ("__debug__" : Str)) = false := by decide +kernel
theorem nc_found : (("found" : Str) == ("__classdict__" : Str)) = false := by decide +kernel
theorem nd_good : (("good" : Str) == ("__debug__" : Str)) = false := by decide +kernel
theorem nc_good : (("good" : Str) == ("__classdict__" : Str)) = false := by decide +kernel
theorem nd_inner : (("inner" : Str) == ("__debug__" : Str)) = false := by decide +kernel
theorem nc_inner : (("inner" : Str) == ("__classdict__" : Str)) = false := by decide +kernel
theorem nd_int : (("int" : Str) == ("__debug__" : Str)) = false := by decide +kernel
theorem nc_int : (("int" : Str) == ("__classdict__" : Str)) = false := by decide +kernel
theorem nd_is_integer : (("is_integer" : Str) == ("__debug__" : Str)) = false := by decide +kernel
theorem nc_is_integer : (("is_integer" : Str) == ("__classdict__" : Str)) = false := by decide +kernel
theorem nd_is_lot : (("is_lot" : Str) == ("__debug__" : Str)) = false := by decide +kernel
theorem nc_is_lot : (("is_lot" : Str) == ("__classdict__" : Str)) = false := by decide +kernel
theorem nd_is_name : (("is_name" : Str) == ("__debug__" : Str)) = false := by decide +kernel
theorem nc_is_name : (("is_name" : Str) == ("__classdict__" : Str)) = false := by decide +kernel
theorem nd_is_within : (("is_within" : Str) == ("__debug__" : Str)) = false := by decide +kernel
theorem nc_is_within : (("is_within" : Str) == ("__classdict__" : Str)) = false := by decide +kernel
theorem nd_isinstance : (("isinstance" : Str) == ("__debug__" : Str)) = false := by decide +kernel
theorem nc_isinstance : (("isinstance" : Str) == ("__classdict__" : Str)) = false := by decide +kernel
theorem nd_least : (("least" : Str) == ("__debug__" : Str)) = false := by decide +kernel
theorem nc_least : (("least" : Str) == ("__classdict__" : Str)) = false := by decide +kernel
theorem nd_len : (("len" : Str) == ("__debug__" : Str)) = false := by decide +kernel
theorem nc_len : (("len" : Str) == ("__classdict__" : Str)) = false := by decide +kernel
theorem nd_list : (("list" : Str) == ("__debug__" : Str)) = false := by decide +kernel
theorem nc_list : (("list" : Str) == ("__classdict__" : Str)) = false := by decide +kernel
theorem nd_many : (("many" : Str) == ("__debug__" : Str)) = false := by decide +kernel
theorem nc_many : (("many" : Str) == ("__classdict__" : Str)) = false := by decide +kernel
theorem nd_most : (("most" : Str) == ("__debug__" : Str)) = false := by decide +kernel
theorem nc_most : (("most" : Str) == ("__classdict__" : Str)) = false := by decide +kernel
theorem nd_names : (("names" : Str) == ("__debug__" : Str)) = false := by decide +kernel
theorem nc_names : (("names" : Str) == ("__classdict__" : Str)) = false := by decide +kernel
theorem nd_number : (("number" : Str) == ("__debug__" : Str)) = false := by decide +kernel
theorem nc_number : (("number" : Str) == ("__classdict__" : Str)) = false := by decide +kernel
theorem nd_one : (("one" : Str) == ("__debug__" : Str)) = false := by decide +kernel
theorem nc_one : (("one" : Str) == ("__classdict__" : Str)) = false := by decide +kernel
theorem nd_other : (("other" : Str) == ("__debug__" : Str)) = false := by decide +kernel
theorem nc_other : (("other" : Str) == ("__classdict__" : Str)) = false := by decide +kernel
theorem nd_pairs : (("pairs" : Str) == ("__debug__" : Str)) = false := by decide +kernel
theorem nc_pairs : (("pairs" : Str) == ("__classdict__" : Str)) = false := by decide +kernel
theorem nd_row : (("row" : Str) == ("__debug__" : Str)) = false := by decide +kernel
theorem nc_row : (("row" : Str) == ("__classdict__" : Str)) = false := by decide +kernel
theorem nd_script : (("script" : Str) == ("__debug__" : Str)) = false := by decide +kernel
theorem nc_script : (("script" : Str) == ("__classdict__" : Str)) = false := by decide +kernel
theorem nd_second : (("second" : Str) == ("__debug__" : Str)) = false := by decide +kernel
theorem nc_second : (("second" : Str) == ("__classdict__" : Str)) = false := by decide +kernel
theorem nd_sign : (("sign" : Str) == ("__debug__" : Str)) = false := by decide +kernel
theorem nc_sign : (("sign" : Str) == ("__classdict__" : Str)) = false := by decide +kernel
theorem nd_some : (("some" : Str) == ("__debug__" : Str)) = false := by decide +kernel
theorem nc_some : (("some" : Str) == ("__classdict__" : Str)) = false := by decide +kernel
theorem nd_sorted : (("sorted" : Str) == ("__debug__" : Str)) = false := by decide +kernel
theorem nc_sorted : (("sorted" : Str) == ("__classdict__" : Str)) = false := by decide +kernel
theorem nd_stirred : (("stirred" : Str) == ("__debug__" : Str)) = false := by decide +kernel
theorem nc_stirred : (("stirred" : Str) == ("__classdict__" : Str)) = false := by decide +kernel
theorem nd_str : (("str" : Str) == ("__debug__" : Str)) = false := by decide +kernel
theorem nc_str : (("str" : Str) == ("__classdict__" : Str)) = false := by decide +kernel
theorem nd_thing : (("thing" : Str) == ("__debug__" : Str)) = false := by decide +kernel
theorem nc_thing : (("thing" : Str) == ("__classdict__" : Str)) = false := by decide +kernel
theorem nd_things : (("things" : Str) == ("__debug__" : Str)) = false := by decide +kernel
theorem nc_things : (("things" : Str) == ("__classdict__" : Str)) = false := by decide +kernel
theorem nd_tuple : (("tuple" : Str) == ("__debug__" : Str)) = false := by decide +kernel
theorem nc_tuple : (("tuple" : Str) == ("__classdict__" : Str)) = false := by decide +kernel
theorem nd_unlike : (("unlike" : Str) == ("__debug__" : Str)) = false := by decide +kernel
theorem nc_unlike : (("unlike" : Str) == ("__classdict__" : Str)) = false := by decide +kernel
theorem nd_value : (("value" : Str) == ("__debug__" : Str)) = false := by decide +kernel
theorem nc_value : (("value" : Str) == ("__classdict__" : Str)) = false := by decide +kernel
theorem nd_word : (("word" : Str) == ("__debug__" : Str)) = false := by decide +kernel
theorem nc_word : (("word" : Str) == ("__classdict__" : Str)) = false := by decide +kernel
def vs_RESERVED : List V := [.str "by", .str "from", .str "move", .str "of", .str "reads", .str "secret", .str "sign", .str "sounds", .str "state", .str "to", .str "word"]
theorem rels_RESERVED (K : PySem.W.Frag) (H : Hp) (ρ : RS) : Rels K H ρ ds_RESERVED vs_RESERVED := ⟨_, _, rfl, ⟨rfl, by decide +kernel⟩, ⟨_, _, rfl, ⟨rfl, by decide +kernel⟩, ⟨_, _, rfl, ⟨rfl, by decide +kernel⟩, ⟨_, _, rfl, ⟨rfl, by decide +kernel⟩, ⟨_, _, rfl, ⟨rfl, by decide +kernel⟩, ⟨_, _, rfl, ⟨rfl, by decide +kernel⟩, ⟨_, _, rfl, ⟨rfl, by decide +kernel⟩, ⟨_, _, rfl, ⟨rfl, by decide +kernel⟩, ⟨_, _, rfl, ⟨rfl, by decide +kernel⟩, ⟨_, _, rfl, ⟨rfl, by decide +kernel⟩, ⟨_, _, rfl, ⟨rfl, by decide +kernel⟩, rfl⟩⟩⟩⟩⟩⟩⟩⟩⟩⟩⟩
structure Tx (K : PySem.W.Frag) (mg : Str → Option Value) : Prop where
  n_abs : mg "abs" = none
  n_all : mg "all" = none
  n_bool : mg "bool" = none
  n_int : mg "int" = none
  n_isinstance : mg "isinstance" = none
  n_len : mg "len" = none
  n_list : mg "list" = none
  n_range : mg "range" = none
  n_sorted : mg "sorted" = none
  n_str : mg "str" = none
  n_tuple : mg "tuple" = none
  n_zip : mg "zip" = none
  c_LETTERS : ∃ t, mg "LETTERS" = some (.str "abcdefghijklmnopqrstuvwxyz" t)
  c_RESERVED : mg "RESERVED" = some (.ref (He.ga K "RESERVED"))
  t_RESERVED : ∀ H : Hp, SqT K H (He.ga K "RESERVED") vs_RESERVED
  c_MOST_NAME : ∃ t, mg "MOST_NAME" = some (.int 8 t)
  g__law_bag : mg "_law_bag" = some (.ref (He.fAd K ("_law_bag", none)))
  f__law_bag : ∃ fd, FunD K "_law_bag" "_law_bag" (defArgs (top 13)) (defBody (top 13)) (defScope (top 13)) [] [] (He.fAd K ("_law_bag", none)) fd
  g__law_take : mg "_law_take" = some (.ref (He.fAd K ("_law_take", none)))
  f__law_take : ∃ fd, FunD K "_law_take" "_law_take" (defArgs (top 11)) (defBody (top 11)) (defScope (top 11)) [] [] (He.fAd K ("_law_take", none)) fd
  g__law_some : mg "_law_some" = some (.ref (He.fAd K ("_law_some", none)))
  f__law_some : ∃ fd, FunD K "_law_some" "_law_some" (defArgs (top 12)) (defBody (top 12)) (defScope (top 12)) [] [] (He.fAd K ("_law_some", none)) fd
  g__law_word : mg "_law_word" = some (.ref (He.fAd K ("_law_word", none)))
  f__law_word : ∃ fd, FunD K "_law_word" "_law_word" (defArgs (top 17)) (defBody (top 17)) (defScope (top 17)) [] [] (He.fAd K ("_law_word", none)) fd
  g__law_alike : mg "_law_alike" = some (.ref (He.fAd K ("_law_alike", none)))
  f__law_alike : ∃ fd, FunD K "_law_alike" "_law_alike" (defArgs (top 14)) (defBody (top 14)) (defScope (top 14)) [] [] (He.fAd K ("_law_alike", none)) fd
  g__law_are_unlike : mg "_law_are_unlike" = some (.ref (He.fAd K ("_law_are_unlike", none)))
  f__law_are_unlike : ∃ fd, FunD K "_law_are_unlike" "_law_are_unlike" (defArgs (top 18)) (defBody (top 18)) (defScope (top 18)) [] [] (He.fAd K ("_law_are_unlike", none)) fd
  g_is_integer : mg "is_integer" = some (.ref (He.fAd K ("is_integer", none)))
  f_is_integer : ∃ fd, FunD K "is_integer" "is_integer" (defArgs (top 4)) (defBody (top 4)) (defScope (top 4)) [] [] (He.fAd K ("is_integer", none)) fd
  g_is_within : mg "is_within" = some (.ref (He.fAd K ("is_within", none)))
  f_is_within : ∃ fd, FunD K "is_within" "is_within" (defArgs (top 5)) (defBody (top 5)) (defScope (top 5)) [] [] (He.fAd K ("is_within", none)) fd
  g_is_name : mg "is_name" = some (.ref (He.fAd K ("is_name", none)))
  f_is_name : ∃ fd, FunD K "is_name" "is_name" (defArgs (top 6)) (defBody (top 6)) (defScope (top 6)) [] [] (He.fAd K ("is_name", none)) fd
  g_are_names : mg "are_names" = some (.ref (He.fAd K ("are_names", none)))
  f_are_names : ∃ fd, FunD K "are_names" "are_names" (defArgs (top 7)) (defBody (top 7)) (defScope (top 7)) [] [] (He.fAd K ("are_names", none)) fd
  g__law_is_name : mg "_law_is_name" = some (.ref (He.fAd K ("_law_is_name", none)))
  f__law_is_name : ∃ fd, FunD K "_law_is_name" "_law_is_name" (defArgs (top 16)) (defBody (top 16)) (defScope (top 16)) [] [] (He.fAd K ("_law_is_name", none)) fd
  g__law_is_int : mg "_law_is_int" = some (.ref (He.fAd K ("_law_is_int", none)))
  f__law_is_int : ∃ fd, FunD K "_law_is_int" "_law_is_int" (defArgs (top 15)) (defBody (top 15)) (defScope (top 15)) [] [] (He.fAd K ("_law_is_int", none)) fd
  g_are_some_of : mg "are_some_of" = some (.ref (He.fAd K ("are_some_of", none)))
  f_are_some_of : ∃ fd, FunD K "are_some_of" "are_some_of" (defArgs (top 8)) (defBody (top 8)) (defScope (top 8)) [] [] (He.fAd K ("are_some_of", none)) fd
  g_is_lot : mg "is_lot" = some (.ref (He.fAd K ("is_lot", none)))
  f_is_lot : ∃ fd, FunD K "is_lot" "is_lot" (defArgs (top 9)) (defBody (top 9)) (defScope (top 9)) [] [] (He.fAd K ("is_lot", none)) fd
  g_law : mg "law" = some (.ref (He.fAd K ("law", none)))
  f_law : ∃ fd, FunD K "law" "law" (defArgs (top 19)) (defBody (top 19)) (defScope (top 19)) [] [] (He.fAd K ("law", none)) fd
theorem ndN__law_bag : (["script", "cell"] : List Str).Nodup := by decide +kernel
theorem sc__law_bag : FnScope ["script", "cell"] ["script"] (defScope (top 13)) := ⟨rfl, rfl, rfl, by decide +kernel, rfl, by decide +kernel, by decide +kernel⟩
theorem ok__law_bag {P : Program} {w : World} {K : PySem.W.Frag} {cl : List Addr} {mg : Str → Option Value} {base : Heap} (T : Tx K mg) : FnG P w K mg base 1 "_law_bag" ["script"] (spF K cl 1 F__law_bag) := by
  exact fn_okG T.f__law_bag T.g__law_bag sc__law_bag 1 2 rfl rfl rt_B rt_nxB (fun _ _ _ _ _ _ us hl => match us, hl with | [_], _ => rfl) (fun cdv A outer s H E hr => (dss_one (ds_ret (d_box (n_lst (da_cons d_int (da_cons d_int (da_cons d_int (da_cons (d_frozen (n_lc (ts := [1]) (own := [("cell", 1)]) rfl ndN__law_bag (di_any rfl (d_slice rfl (d_var (i := 0) rfl (.inl rfl) nd_script nc_script) do_none (do_some d_int))) (blkOk_by rfl) (fun _ _ _ _ _ => (dg_name (i := 1) ndN__law_bag rfl (.inl rfl) (.inr rfl))) (fun _ _ _ _ _ => dts_nil) (fun _ _ _ _ _ => (d_callB call_abs o_abs rfl T.n_abs bt_abs (da_cons (d_var (i := 1) rfl (.inl rfl) nd_cell nc_cell) da_nil rfl) (by decide) nd_abs rfl rfl)) (fun _ => rfl) (by decide))) da_nil rfl) rfl) rfl) rfl))))))
theorem ndN__law_take : (["bag", "many", "cell", "stirred", "value", "begin", "second"] : List Str).Nodup := by decide +kernel
theorem sc__law_take : FnScope ["bag", "many", "cell", "stirred", "value", "begin", "second"] ["bag", "many"] (defScope (top 11)) := ⟨rfl, rfl, rfl, by decide +kernel, rfl, by decide +kernel, by decide +kernel⟩
theorem ok__law_take {P : Program} {w : World} {K : PySem.W.Frag} {cl : List Addr} {mg : Str → Option Value} {base : Heap} (T : Tx K mg) : FnG P w K mg base 1 "_law_take" ["bag", "many"] (spF K cl 2 F__law_take) := by
  exact fn_okG T.f__law_take T.g__law_take sc__law_take 2 7 rfl rfl rt_F rt_nx (fun _ _ _ _ _ _ us hl => match us, hl with | [_, _], _ => rfl) (fun cdv A outer s H E hr => (dss_cons (ds_if (dt_cmp (k_eq rfl (room65 hr)) (d_ix rfl (room1 hr) (d_var (i := 0) rfl (.inl rfl) nd_bag nc_bag) d_int (fun _ _ => rfl)) d_int (nomark _)) (dss_cons (ds_set (i := 2) ndN__law_take rfl (.inl rfl) (d_ix rfl (room1 hr) (d_plus rfl (d_slice rfl (d_ix rfl (room1 hr) (d_var (i := 0) rfl (.inl rfl) nd_bag nc_bag) d_int (fun _ _ => rfl)) (do_some (d_ix rfl (room1 hr) (d_var (i := 0) rfl (.inl rfl) nd_bag nc_bag) d_int (fun _ _ => rfl))) do_none) (d_frozen (n_lst (da_cons d_int da_nil rfl)))) d_int (fun _ _ => rfl)) rfl (.inl rfl))
  (dss_cons (ds_augS rfl (room1 hr) (d_var (i := 0) rfl (.inl rfl) nd_bag nc_bag) d_int d_int ip_add o_addI (fun _ _ _ => rfl))
  (dss_cons (ds_if (dt_cmp k_ge (d_var (i := 2) rfl (.inl rfl) nd_cell nc_cell) (d_pow d_int d_int) (nomark _)) (dss_one (ds_asg (ts := []) (d_var (i := 2) rfl (.inl rfl) nd_cell nc_cell) (dg_sub (room1 hr) (d_var (i := 0) rfl (.inl rfl) nd_bag nc_bag) d_int (fun _ => rfl)) rfl rfl rfl)) dss_nil)
  (dss_cons (ds_set (i := 3) ndN__law_take rfl (.inl rfl) (d_plus rfl (d_plus rfl (d_times (d_ix rfl (room1 hr) (d_var (i := 0) rfl (.inl rfl) nd_bag nc_bag) d_int (fun _ _ => rfl)) d_int) (d_mod (d_callTy call_intM o_int rfl T.n_int bt_int (da_cons (d_var (i := 2) rfl (.inl rfl) nd_cell nc_cell) da_nil rfl) (by decide) nd_int rfl rfl) d_int)) (d_times d_int (d_ix rfl (room1 hr) (d_var (i := 0) rfl (.inl rfl) nd_bag nc_bag) d_int (fun _ _ => rfl)))) rfl (.inl rfl))
  (dss_one (ds_asg (ts := []) (d_mod (d_callTy call_intM o_int rfl T.n_int bt_int (da_cons (d_var (i := 3) rfl (.inl rfl) nd_stirred nc_stirred) da_nil rfl) (by decide) nd_int rfl rfl) d_int) (dg_sub (room1 hr) (d_var (i := 0) rfl (.inl rfl) nd_bag nc_bag) d_int (fun _ => rfl)) rfl rfl rfl)))))) dss_nil)
  (dss_cons (ds_if (dt_cmp k_gt (d_ix rfl (room1 hr) (d_var (i := 0) rfl (.inl rfl) nd_bag nc_bag) d_int (fun _ _ => rfl)) d_int (nomark _)) (dss_cons (ds_set (i := 4) ndN__law_take rfl (.inl rfl) (d_mod (d_callTy call_intM o_int rfl T.n_int bt_int (da_cons (d_ix rfl (room1 hr) (d_var (i := 0) rfl (.inl rfl) nd_bag nc_bag) d_int (fun _ _ => rfl)) da_nil rfl) (by decide) nd_int rfl rfl) (d_var (i := 1) rfl (.inl rfl) nd_many nc_many)) rfl (.inl rfl))
  (dss_cons (ds_asg (ts := []) (d_fdiv (d_callTy call_intM o_int rfl T.n_int bt_int (da_cons (d_ix rfl (room1 hr) (d_var (i := 0) rfl (.inl rfl) nd_bag nc_bag) d_int (fun _ _ => rfl)) da_nil rfl) (by decide) nd_int rfl rfl) (d_var (i := 1) rfl (.inl rfl) nd_many nc_many)) (dg_sub (room1 hr) (d_var (i := 0) rfl (.inl rfl) nd_bag nc_bag) d_int (fun _ => rfl)) rfl rfl rfl)
  (dss_one (ds_ret (d_var (i := 4) rfl (.inl rfl) nd_value nc_value))))) dss_nil)
  (dss_cons (ds_set (i := 5) ndN__law_take rfl (.inl rfl) (d_mod (d_callTy call_intM o_int rfl T.n_int bt_int (da_cons (d_times (d_plus rfl (d_ix rfl (room1 hr) (d_var (i := 0) rfl (.inl rfl) nd_bag nc_bag) d_int (fun _ _ => rfl)) d_int) d_int) da_nil rfl) (by decide) nd_int rfl rfl) d_int) rfl (.inl rfl))
  (dss_cons (ds_set (i := 6) ndN__law_take rfl (.inl rfl) (d_mod (d_callTy call_intM o_int rfl T.n_int bt_int (da_cons (d_times (d_mod (d_callTy call_intM o_int rfl T.n_int bt_int (da_cons (d_times (d_var (i := 5) rfl (.inl rfl) nd_begin nc_begin) (d_var (i := 5) rfl (.inl rfl) nd_begin nc_begin)) da_nil rfl) (by decide) nd_int rfl rfl) d_int) d_int) da_nil rfl) (by decide) nd_int rfl rfl) d_int) rfl (.inl rfl))
  (dss_one (ds_ret (d_mod (d_callTy call_intM o_int rfl T.n_int bt_int (da_cons (d_fdiv (d_var (i := 6) rfl (.inl rfl) nd_second nc_second) d_int) da_nil rfl) (by decide) nd_int rfl rfl) (d_var (i := 1) rfl (.inl rfl) nd_many nc_many)))))))))
theorem ndN__law_some : (["bag", "things"] : List Str).Nodup := by decide +kernel
theorem sc__law_some : FnScope ["bag", "things"] ["bag", "things"] (defScope (top 12)) := ⟨rfl, rfl, rfl, by decide +kernel, rfl, by decide +kernel, by decide +kernel⟩
theorem ok__law_some {P : Program} {w : World} {K : PySem.W.Frag} {cl : List Addr} {mg : Str → Option Value} {base : Heap} (T : Tx K mg) : FnG P w K mg base 2 "_law_some" ["bag", "things"] (spF K cl 2 F__law_some) := by
  have G__law_take := ok__law_take (P := P) (w := w) (cl := cl) (base := base) T
  exact fn_okG T.f__law_some T.g__law_some sc__law_some 2 2 rfl rfl rt_F rt_nx (fun _ _ _ _ _ _ us hl => match us, hl with | [_, _], _ => rfl) (fun cdv A outer s H E hr => (dss_one (ds_ret (d_ix rfl (room1 hr) (d_var (i := 1) rfl (.inl rfl) nd_things nc_things) (d_fn G__law_take rfl rfl hr (by decide) rfl (takes_of rfl rfl rfl rfl) (da_cons (d_var (i := 0) rfl (.inl rfl) nd_bag nc_bag) (da_cons (d_callB call_lenM o_len rfl T.n_len bt_len (da_cons (d_var (i := 1) rfl (.inl rfl) nd_things nc_things) da_nil rfl) (by decide) nd_len rfl rfl) da_nil rfl) rfl) nd__law_take rfl rfl) (fun _ _ => rfl)))))
theorem ndN__law_word : (["bag", "some"] : List Str).Nodup := by decide +kernel
theorem sc__law_word : FnScope ["bag", "some"] ["bag"] (defScope (top 17)) := ⟨rfl, rfl, rfl, by decide +kernel, rfl, by decide +kernel, by decide +kernel⟩
theorem ok__law_word {P : Program} {w : World} {K : PySem.W.Frag} {cl : List Addr} {mg : Str → Option Value} {base : Heap} (T : Tx K mg) : FnG P w K mg base 3 "_law_word" ["bag"] (spF K cl 1 F__law_word) := by
  have G__law_some := ok__law_some (P := P) (w := w) (cl := cl) (base := base) T
  exact fn_okG T.f__law_word T.g__law_word sc__law_word 1 2 rfl rfl rt_F rt_nx (fun _ _ _ _ _ _ us hl => match us, hl with | [_], _ => rfl) (fun cdv A outer s H E hr => (dss_cons (ds_set (i := 1) ndN__law_word rfl (.inl rfl) (d_frozen (n_lst (da_cons (d_str (by decide +kernel)) (da_cons (d_str (by decide +kernel)) (da_cons (d_str (by decide +kernel)) (da_cons (d_str (by decide +kernel)) (da_cons (d_str (by decide +kernel)) (da_cons (d_str (by decide +kernel)) (da_cons (d_str (by decide +kernel)) (da_cons (d_str (by decide +kernel)) (da_cons (d_str (by decide +kernel)) (da_cons (d_str (by decide +kernel)) (da_cons (d_str (by decide +kernel)) (da_cons (d_str (by decide +kernel)) (da_cons (d_str (by decide +kernel)) (da_cons (d_str (by decide +kernel)) (da_cons (d_str (by decide +kernel)) da_nil rfl) rfl) rfl) rfl) rfl) rfl) rfl) rfl) rfl) rfl) rfl) rfl) rfl) rfl) rfl))) rfl (.inl rfl))
  (dss_one (ds_ret (d_fn G__law_some rfl rfl hr (by decide) rfl (takes_of rfl rfl rfl rfl) (da_cons (d_var (i := 0) rfl (.inl rfl) nd_bag nc_bag) (da_cons (d_plus rfl (d_var (i := 1) rfl (.inl rfl) nd_some nc_some) (d_frozen (n_lst (da_cons (d_str (by decide +kernel)) (da_cons (d_str (by decide +kernel)) (da_cons (d_str (by decide +kernel)) (da_cons (d_str (by decide +kernel)) (da_cons (d_str (by decide +kernel)) (da_cons (d_str (by decide +kernel)) (da_cons d_none0 (da_cons d_int (da_cons d_bool0 (da_cons (d_tup (da_cons (d_str (by decide +kernel)) da_nil rfl)) (da_cons (d_frozen (n_lst (da_cons (d_str (by decide +kernel)) da_nil rfl))) da_nil rfl) rfl) rfl) rfl) rfl) rfl) rfl) rfl) rfl) rfl) rfl)))) da_nil rfl) rfl) nd__law_some rfl rfl)))))
theorem ndN__law_alike : (["found", "due", "pairs", "at", "one", "other"] : List Str).Nodup := by decide +kernel
theorem sc__law_alike : FnScope ["found", "due", "pairs", "at", "one", "other"] ["found", "due"] (defScope (top 14)) := ⟨rfl, rfl, rfl, by decide +kernel, rfl, by decide +kernel, by decide +kernel⟩
theorem ok__law_alike {P : Program} {w : World} {K : PySem.W.Frag} {cl : List Addr} {mg : Str → Option Value} {base : Heap} (T : Tx K mg) : FnG P w K mg base 1 "_law_alike" ["found", "due"] (spF K cl 2 F__law_alike) := by
  exact fn_okG T.f__law_alike T.g__law_alike sc__law_alike 2 6 rfl rfl rt_F rt_nx (fun _ _ _ _ _ _ us hl => match us, hl with | [_, _], _ => rfl) (fun cdv A outer s H E hr => (dss_cons (ds_par (i := 2) (j := 3) rfl ndN__law_alike rfl rfl (by decide) rfl rfl (da_cons (d_box (n_lst (da_cons (d_tup (da_cons (d_var (i := 0) rfl (.inl rfl) nd_found nc_found) (da_cons (d_var (i := 1) rfl (.inl rfl) nd_due nc_due) da_nil rfl) rfl)) da_nil rfl))) (da_cons d_int da_nil rfl) rfl) rfl rfl)
  (dss_cons (ds_while fuel (passes_of rfl) (dt_cmp k_lt (d_var (i := 3) rfl (.inl rfl) nd_at nc_at) (d_callB call_lenM o_len rfl T.n_len bt_len (da_cons (d_var (i := 2) rfl (.inl rfl) nd_pairs nc_pairs) da_nil rfl) (by decide) nd_len rfl rfl) (nomark _)) (dss_cons (ds_asg (ts := [4, 5]) (d_ix rfl (room1 hr) (d_var (i := 2) rfl (.inl rfl) nd_pairs nc_pairs) (d_var (i := 3) rfl (.inl rfl) nd_at nc_at) (fun _ _ => rfl)) (dg_tup rfl rfl (dgs_cons (dg_name (i := 4) ndN__law_alike rfl (.inl rfl) (.inl rfl)) (dgs_cons (dg_name (i := 5) ndN__law_alike rfl (.inl rfl) (.inl rfl)) dgs_nil rfl) rfl) rfl rfl) rfl rfl rfl)
  (dss_cons (ds_aug (i := 3) ndN__law_alike rfl (.inl rfl) d_int ip_add o_addI (.inl rfl))
  (dss_cons (ds_if (dt_w (dw_or (dt_cmp (k_ne rfl (room65 hr)) (d_callB call_isiM o_isi rfl T.n_isinstance bt_isinstance (da_cons (d_var (i := 4) rfl (.inl rfl) nd_one nc_one) (da_cons (d_bltn rfl T.n_bool bt_bool (by decide) nd_bool) da_nil rfl) rfl) (by decide) nd_isinstance rfl rfl) (d_callB call_isiM o_isi rfl T.n_isinstance bt_isinstance (da_cons (d_var (i := 5) rfl (.inl rfl) nd_other nc_other) (da_cons (d_bltn rfl T.n_bool bt_bool (by decide) nd_bool) da_nil rfl) rfl) (by decide) nd_isinstance rfl rfl) (nomark _)) (dw_or1 (dt_cmp (k_ne rfl (room65 hr)) (d_callB call_isiM o_isi rfl T.n_isinstance bt_isinstance (da_cons (d_var (i := 4) rfl (.inl rfl) nd_one nc_one) (da_cons (d_bltn rfl T.n_str bt_str (by decide) nd_str) da_nil rfl) rfl) (by decide) nd_isinstance rfl rfl) (d_callB call_isiM o_isi rfl T.n_isinstance bt_isinstance (da_cons (d_var (i := 5) rfl (.inl rfl) nd_other nc_other) (da_cons (d_bltn rfl T.n_str bt_str (by decide) nd_str) da_nil rfl) rfl) (by decide) nd_isinstance rfl rfl) (nomark _))))) (dss_one (ds_ret d_bool0)) dss_nil)
  (dss_cons (ds_if (dt_cmp (k_ne rfl (room65 hr)) (d_callB call_isiM o_isi rfl T.n_isinstance bt_isinstance (da_cons (d_var (i := 4) rfl (.inl rfl) nd_one nc_one) (da_cons (d_tup (da_cons (d_bltn rfl T.n_tuple bt_tuple (by decide) nd_tuple) (da_cons (d_bltn rfl T.n_list bt_list (by decide) nd_list) da_nil rfl) rfl)) da_nil rfl) rfl) (by decide) nd_isinstance rfl rfl) (d_callB call_isiM o_isi rfl T.n_isinstance bt_isinstance (da_cons (d_var (i := 5) rfl (.inl rfl) nd_other nc_other) (da_cons (d_tup (da_cons (d_bltn rfl T.n_tuple bt_tuple (by decide) nd_tuple) (da_cons (d_bltn rfl T.n_list bt_list (by decide) nd_list) da_nil rfl) rfl)) da_nil rfl) rfl) (by decide) nd_isinstance rfl rfl) (nomark _)) (dss_one (ds_ret d_bool0)) dss_nil)
  (dss_one (ds_if (dt_truth rfl (d_callB call_isiM o_isi rfl T.n_isinstance bt_isinstance (da_cons (d_var (i := 4) rfl (.inl rfl) nd_one nc_one) (da_cons (d_tup (da_cons (d_bltn rfl T.n_tuple bt_tuple (by decide) nd_tuple) (da_cons (d_bltn rfl T.n_list bt_list (by decide) nd_list) da_nil rfl) rfl)) da_nil rfl) rfl) (by decide) nd_isinstance rfl rfl) (fun _ => rfl)) (dss_cons (ds_if (dt_w (dw_or (dt_cmp (k_ne rfl (room65 hr)) (d_callB call_isiM o_isi rfl T.n_isinstance bt_isinstance (da_cons (d_var (i := 4) rfl (.inl rfl) nd_one nc_one) (da_cons (d_bltn rfl T.n_tuple bt_tuple (by decide) nd_tuple) da_nil rfl) rfl) (by decide) nd_isinstance rfl rfl) (d_callB call_isiM o_isi rfl T.n_isinstance bt_isinstance (da_cons (d_var (i := 5) rfl (.inl rfl) nd_other nc_other) (da_cons (d_bltn rfl T.n_tuple bt_tuple (by decide) nd_tuple) da_nil rfl) rfl) (by decide) nd_isinstance rfl rfl) (nomark _)) (dw_or1 (dt_cmp (k_ne rfl (room65 hr)) (d_callB call_lenM o_len rfl T.n_len bt_len (da_cons (d_var (i := 4) rfl (.inl rfl) nd_one nc_one) da_nil rfl) (by decide) nd_len rfl rfl) (d_callB call_lenM o_len rfl T.n_len bt_len (da_cons (d_var (i := 5) rfl (.inl rfl) nd_other nc_other) da_nil rfl) (by decide) nd_len rfl rfl) (nomark _))))) (dss_one (ds_ret d_bool0)) dss_nil)
  (dss_one (ds_expr (d_bm rfl PySem.F.plainAttrs_list PySem.F.slot_list_extend PySem.F.type_list_extend mt_extend o_extend (d_var (i := 2) rfl (.inl rfl) nd_pairs nc_pairs) (da_cons (d_frozen (n_listZip rfl rfl (da_cons (d_var (i := 4) rfl (.inl rfl) nd_one nc_one) (da_cons (d_var (i := 5) rfl (.inl rfl) nd_other nc_other) da_nil rfl) rfl) rfl T.n_list rfl T.n_zip rfl rfl rfl)) da_nil rfl) rfl rfl rfl rfl rfl) rfl))) (dss_one (ds_if (dt_cmp (k_ne rfl (room65 hr)) (d_var (i := 4) rfl (.inl rfl) nd_one nc_one) (d_var (i := 5) rfl (.inl rfl) nd_other nc_other) (nomark _)) (dss_one (ds_ret d_bool0)) dss_nil)))))))))
  (dss_one (ds_ret d_bool0)))))
theorem ndN__law_are_unlike : (["things", "at"] : List Str).Nodup := by decide +kernel
theorem sc__law_are_unlike : FnScope ["things", "at"] ["things"] (defScope (top 18)) := ⟨rfl, rfl, rfl, by decide +kernel, rfl, by decide +kernel, by decide +kernel⟩
theorem ok__law_are_unlike {P : Program} {w : World} {K : PySem.W.Frag} {cl : List Addr} {mg : Str → Option Value} {base : Heap} (T : Tx K mg) : FnG P w K mg base 1 "_law_are_unlike" ["things"] (spF K cl 1 F__law_are_unlike) := by
  exact fn_okG T.f__law_are_unlike T.g__law_are_unlike sc__law_are_unlike 1 2 rfl rfl rt_F rt_nx (fun _ _ _ _ _ _ us hl => match us, hl with | [_], _ => rfl) (fun cdv A outer s H E hr => (dss_one (ds_ret (d_cmp (k_eq rfl (room65 hr)) (d_frozen (n_lc (ts := [1]) (own := [("at", 1)]) rfl ndN__law_are_unlike (di_range1 rfl T.n_range (da_cons (d_callB call_lenM o_len rfl T.n_len bt_len (da_cons (d_var (i := 0) rfl (.inr (.inl rfl)) nd_things nc_things) da_nil rfl) (by decide) nd_len rfl rfl) da_nil rfl) rfl) (blkOk_by rfl) (fun _ _ _ _ _ => (dg_name (i := 1) ndN__law_are_unlike rfl (.inl rfl) (.inr rfl))) (fun _ _ _ _ _ => (dts_one (dt_cmp (k_in rfl (room65 hr)) (d_ix rfl (room1 hr) (d_var (i := 0) rfl (.inr (.inl rfl)) nd_things nc_things) (d_var (i := 1) rfl (.inl rfl) nd_at nc_at) (fun _ _ => rfl)) (d_slice rfl (d_var (i := 0) rfl (.inr (.inl rfl)) nd_things nc_things) do_none (do_some (d_var (i := 1) rfl (.inl rfl) nd_at nc_at))) (by with_unfolding_all rfl)))) (fun _ _ _ _ _ => d_int) (fun _ => rfl) (by decide))) (d_frozen (n_lst da_nil)) (nomark _)))))
theorem ndN_is_integer : (["thing"] : List Str).Nodup := by decide +kernel
theorem sc_is_integer : FnScope ["thing"] ["thing"] (defScope (top 4)) := ⟨rfl, rfl, rfl, by decide +kernel, rfl, by decide +kernel, by decide +kernel⟩
theorem ok_is_integer {P : Program} {w : World} {K : PySem.W.Frag} {cl : List Addr} {mg : Str → Option Value} {base : Heap} (T : Tx K mg) : FnG P w K mg base 1 "is_integer" ["thing"] (spF K cl 1 F_is_integer) := by
  exact fn_okG T.f_is_integer T.g_is_integer sc_is_integer 1 1 rfl rfl rt_F rt_nx (fun _ _ _ _ _ _ us hl => match us, hl with | [_], _ => rfl) (fun cdv A outer s H E hr => (dss_one (ds_ret (d_and rfl (d_callB call_isiM o_isi rfl T.n_isinstance bt_isinstance (da_cons (d_var (i := 0) rfl (.inl rfl) nd_thing nc_thing) (da_cons (d_bltn rfl T.n_int bt_int (by decide) nd_int) da_nil rfl) rfl) (by decide) nd_isinstance rfl rfl) (d_one (d_not rfl (d_callB call_isiM o_isi rfl T.n_isinstance bt_isinstance (da_cons (d_var (i := 0) rfl (.inl rfl) nd_thing nc_thing) (da_cons (d_bltn rfl T.n_bool bt_bool (by decide) nd_bool) da_nil rfl) rfl) (by decide) nd_isinstance rfl rfl)))))))
theorem ndN_is_within : (["thing", "least", "most"] : List Str).Nodup := by decide +kernel
theorem sc_is_within : FnScope ["thing", "least", "most"] ["thing", "least", "most"] (defScope (top 5)) := ⟨rfl, rfl, rfl, by decide +kernel, rfl, by decide +kernel, by decide +kernel⟩
theorem ok_is_within {P : Program} {w : World} {K : PySem.W.Frag} {cl : List Addr} {mg : Str → Option Value} {base : Heap} (T : Tx K mg) : FnG P w K mg base 2 "is_within" ["thing", "least", "most"] (spF K cl 3 F_is_within) := by
  have G_is_integer := ok_is_integer (P := P) (w := w) (cl := cl) (base := base) T
  exact fn_okG T.f_is_within T.g_is_within sc_is_within 3 3 rfl rfl rt_F rt_nx (fun _ _ _ _ _ _ us hl => match us, hl with | [_, _, _], _ => rfl) (fun cdv A outer s H E hr => (dss_one (ds_ret (d_and rfl (d_fn G_is_integer rfl rfl hr (by decide) rfl (takes_of rfl rfl rfl rfl) (da_cons (d_var (i := 0) rfl (.inl rfl) nd_thing nc_thing) da_nil rfl) nd_is_integer rfl rfl) (d_one (d_chain k_le k_le (d_var (i := 1) rfl (.inl rfl) nd_least nc_least) (d_var (i := 0) rfl (.inl rfl) nd_thing nc_thing) (d_var (i := 2) rfl (.inl rfl) nd_most nc_most) rfl))))))
theorem ndN_is_name : (["thing", "sign"] : List Str).Nodup := by decide +kernel
theorem sc_is_name : FnScope ["thing", "sign"] ["thing"] (defScope (top 6)) := ⟨rfl, rfl, rfl, by decide +kernel, rfl, by decide +kernel, by decide +kernel⟩
theorem ok_is_name {P : Program} {w : World} {K : PySem.W.Frag} {cl : List Addr} {mg : Str → Option Value} {base : Heap} (T : Tx K mg) : FnG P w K mg base 1 "is_name" ["thing"] (spF K cl 1 F_is_name) := by
  exact fn_okG T.f_is_name T.g_is_name sc_is_name 1 2 rfl rfl rt_F rt_nx (fun _ _ _ _ _ _ us hl => match us, hl with | [_], _ => rfl) (fun cdv A outer s H E hr => (dss_cons (ds_if (dt_w (dw_or (dt_not (dt_truth rfl (d_callB call_isiM o_isi rfl T.n_isinstance bt_isinstance (da_cons (d_var (i := 0) rfl (.inl rfl) nd_thing nc_thing) (da_cons (d_bltn rfl T.n_str bt_str (by decide) nd_str) da_nil rfl) rfl) (by decide) nd_isinstance rfl rfl) (fun _ => rfl))) (dw_or (dt_not (dt_chain k_le k_le d_int (d_callB call_lenM o_len rfl T.n_len bt_len (da_cons (d_var (i := 0) rfl (.inl rfl) nd_thing nc_thing) da_nil rfl) (by decide) nd_len rfl rfl) (d_gint rfl T.c_MOST_NAME nd_MOST_NAME) rfl)) (dw_or1 (dt_cmp (k_in rfl (room65 hr)) (d_var (i := 0) rfl (.inl rfl) nd_thing nc_thing) (d_gtup rfl T.c_RESERVED T.t_RESERVED (rels_RESERVED _) nd_RESERVED) (by with_unfolding_all rfl)))))) (dss_one (ds_ret d_bool0)) dss_nil)
  (dss_one (ds_ret (d_callB (cr_all rfl) o_all rfl T.n_all bt_all (da_cons (d_frozen (n_lc (ts := [1]) (own := [("sign", 1)]) rfl ndN_is_name (di_any rfl (d_var (i := 0) rfl (.inl rfl) nd_thing nc_thing)) (blkOk_by rfl) (fun _ _ _ _ _ => (dg_name (i := 1) ndN_is_name rfl (.inl rfl) (.inr rfl))) (fun _ _ _ _ _ => dts_nil) (fun _ _ _ _ _ => (d_cmp (k_in rfl (room65 hr)) (d_var (i := 1) rfl (.inl rfl) nd_sign nc_sign) (d_gstr rfl T.c_LETTERS (by decide +kernel) nd_LETTERS) (by with_unfolding_all rfl))) (fun _ => rfl) (by decide))) da_nil rfl) (by decide) nd_all rfl rfl)))))
theorem ndN_are_names : (["thing", "least", "most", "one"] : List Str).Nodup := by decide +kernel
theorem sc_are_names : FnScope ["thing", "least", "most", "one"] ["thing", "least", "most"] (defScope (top 7)) := ⟨rfl, rfl, rfl, by decide +kernel, rfl, by decide +kernel, by decide +kernel⟩
theorem ok_are_names {P : Program} {w : World} {K : PySem.W.Frag} {cl : List Addr} {mg : Str → Option Value} {base : Heap} (T : Tx K mg) : FnG P w K mg base 2 "are_names" ["thing", "least", "most"] (spF K cl 3 F_are_names) := by
  have G_is_name := ok_is_name (P := P) (w := w) (cl := cl) (base := base) T
  exact fn_okG T.f_are_names T.g_are_names sc_are_names 3 4 rfl rfl rt_F rt_nx (fun _ _ _ _ _ _ us hl => match us, hl with | [_, _, _], _ => rfl) (fun cdv A outer s H E hr => (dss_cons (ds_if (dt_w (dw_or (dt_not (dt_truth rfl (d_callB call_isiM o_isi rfl T.n_isinstance bt_isinstance (da_cons (d_var (i := 0) rfl (.inl rfl) nd_thing nc_thing) (da_cons (d_bltn rfl T.n_tuple bt_tuple (by decide) nd_tuple) da_nil rfl) rfl) (by decide) nd_isinstance rfl rfl) (fun _ => rfl))) (dw_or (dt_not (dt_chain k_le k_le (d_var (i := 1) rfl (.inl rfl) nd_least nc_least) (d_callB call_lenM o_len rfl T.n_len bt_len (da_cons (d_var (i := 0) rfl (.inl rfl) nd_thing nc_thing) da_nil rfl) (by decide) nd_len rfl rfl) (d_var (i := 2) rfl (.inl rfl) nd_most nc_most) rfl)) (dw_or1 (dt_not (dt_truth rfl (d_callB (cr_all rfl) o_all rfl T.n_all bt_all (da_cons (d_frozen (n_lc (ts := [3]) (own := [("one", 3)]) rfl ndN_are_names (di_any rfl (d_var (i := 0) rfl (.inl rfl) nd_thing nc_thing)) (blkOk_by rfl) (fun _ _ _ _ _ => (dg_name (i := 3) ndN_are_names rfl (.inl rfl) (.inr rfl))) (fun _ _ _ _ _ => dts_nil) (fun _ _ _ _ _ => (d_fn G_is_name rfl rfl hr (by decide) rfl takes0 (da_cons (d_var (i := 3) rfl (.inl rfl) nd_one nc_one) da_nil rfl) nd_is_name rfl rfl)) (fun _ => rfl) (by decide))) da_nil rfl) (by decide) nd_all rfl rfl) (fun _ => rfl))))))) (dss_one (ds_ret d_bool0)) dss_nil)
  (dss_one (ds_ret (d_cmp (k_eq rfl (room65 hr)) (d_callB call_lenM o_len rfl T.n_len bt_len (da_cons (d_frzO (o_dc (ts := [3]) (own := [("one", 3)]) rfl ndN_are_names (di_any rfl (d_var (i := 0) rfl (.inl rfl) nd_thing nc_thing)) (blkOk_by rfl) (fun _ _ _ _ _ => (dg_name (i := 3) ndN_are_names rfl (.inl rfl) (.inr rfl))) (fun _ _ _ _ _ => dts_nil) (fun _ _ _ _ _ => (d_var (i := 3) rfl (.inl rfl) nd_one nc_one)) (fun _ _ _ _ _ => d_bool0) (fun _ => rfl) (by decide))) da_nil rfl) (by decide) nd_len rfl rfl) (d_callB call_lenM o_len rfl T.n_len bt_len (da_cons (d_var (i := 0) rfl (.inl rfl) nd_thing nc_thing) da_nil rfl) (by decide) nd_len rfl rfl) (nomark _))))))
theorem ndN__law_is_name : (["thing", "some", "sign"] : List Str).Nodup := by decide +kernel
theorem sc__law_is_name : FnScope ["thing", "some", "sign"] ["thing"] (defScope (top 16)) := ⟨rfl, rfl, rfl, by decide +kernel, rfl, by decide +kernel, by decide +kernel⟩
theorem ok__law_is_name {P : Program} {w : World} {K : PySem.W.Frag} {cl : List Addr} {mg : Str → Option Value} {base : Heap} (T : Tx K mg) : FnG P w K mg base 1 "_law_is_name" ["thing"] (spF K cl 1 F__law_is_name) := by
  exact fn_okG T.f__law_is_name T.g__law_is_name sc__law_is_name 1 3 rfl rfl rt_F rt_nx (fun _ _ _ _ _ _ us hl => match us, hl with | [_], _ => rfl) (fun cdv A outer s H E hr => (dss_cons (ds_set (i := 1) ndN__law_is_name rfl (.inl rfl) (d_tup (da_cons (d_str (by decide +kernel)) (da_cons (d_str (by decide +kernel)) (da_cons (d_str (by decide +kernel)) (da_cons (d_str (by decide +kernel)) (da_cons (d_str (by decide +kernel)) (da_cons (d_str (by decide +kernel)) (da_cons (d_str (by decide +kernel)) (da_cons (d_str (by decide +kernel)) (da_cons (d_str (by decide +kernel)) (da_cons (d_str (by decide +kernel)) (da_cons (d_str (by decide +kernel)) da_nil rfl) rfl) rfl) rfl) rfl) rfl) rfl) rfl) rfl) rfl) rfl)) rfl (.inl rfl))
  (dss_cons (ds_if (dt_w (dw_or (dt_not (dt_truth rfl (d_callB call_isiM o_isi rfl T.n_isinstance bt_isinstance (da_cons (d_var (i := 0) rfl (.inl rfl) nd_thing nc_thing) (da_cons (d_bltn rfl T.n_str bt_str (by decide) nd_str) da_nil rfl) rfl) (by decide) nd_isinstance rfl rfl) (fun _ => rfl))) (dw_or (dt_not (dt_chain k_le k_le d_int (d_callB call_lenM o_len rfl T.n_len bt_len (da_cons (d_var (i := 0) rfl (.inl rfl) nd_thing nc_thing) da_nil rfl) (by decide) nd_len rfl rfl) d_int rfl)) (dw_or1 (dt_cmp (k_in rfl (room65 hr)) (d_var (i := 0) rfl (.inl rfl) nd_thing nc_thing) (d_var (i := 1) rfl (.inl rfl) nd_some nc_some) (by with_unfolding_all rfl)))))) (dss_one (ds_ret d_bool0)) dss_nil)
  (dss_one (ds_ret (d_cmp (k_eq rfl (room65 hr)) (d_frozen (n_lc (ts := [2]) (own := [("sign", 2)]) rfl ndN__law_is_name (di_any rfl (d_var (i := 0) rfl (.inl rfl) nd_thing nc_thing)) (blkOk_by rfl) (fun _ _ _ _ _ => (dg_name (i := 2) ndN__law_is_name rfl (.inl rfl) (.inr rfl))) (fun _ _ _ _ _ => (dts_one (dt_cmp (k_notin rfl (room65 hr)) (d_var (i := 2) rfl (.inl rfl) nd_sign nc_sign) (d_str (by decide +kernel)) (by with_unfolding_all rfl)))) (fun _ _ _ _ _ => d_int) (fun _ => rfl) (by decide))) (d_frozen (n_lst da_nil)) (nomark _)))))))
theorem ndN__law_is_int : (["thing"] : List Str).Nodup := by decide +kernel
theorem sc__law_is_int : FnScope ["thing"] ["thing"] (defScope (top 15)) := ⟨rfl, rfl, rfl, by decide +kernel, rfl, by decide +kernel, by decide +kernel⟩
theorem ok__law_is_int {P : Program} {w : World} {K : PySem.W.Frag} {cl : List Addr} {mg : Str → Option Value} {base : Heap} (T : Tx K mg) : FnG P w K mg base 1 "_law_is_int" ["thing"] (spF K cl 1 F__law_is_int) := by
  exact fn_okG T.f__law_is_int T.g__law_is_int sc__law_is_int 1 1 rfl rfl rt_F rt_nx (fun _ _ _ _ _ _ us hl => match us, hl with | [_], _ => rfl) (fun cdv A outer s H E hr => (dss_one (ds_ret (d_and rfl (d_callB call_isiM o_isi rfl T.n_isinstance bt_isinstance (da_cons (d_var (i := 0) rfl (.inl rfl) nd_thing nc_thing) (da_cons (d_bltn rfl T.n_int bt_int (by decide) nd_int) da_nil rfl) rfl) (by decide) nd_isinstance rfl rfl) (d_one (d_not rfl (d_callB call_isiM o_isi rfl T.n_isinstance bt_isinstance (da_cons (d_var (i := 0) rfl (.inl rfl) nd_thing nc_thing) (da_cons (d_bltn rfl T.n_bool bt_bool (by decide) nd_bool) da_nil rfl) rfl) (by decide) nd_isinstance rfl rfl)))))))
theorem ndN_are_some_of : (["thing", "names", "one"] : List Str).Nodup := by decide +kernel
theorem sc_are_some_of : FnScope ["thing", "names", "one"] ["thing", "names"] (defScope (top 8)) := ⟨rfl, rfl, rfl, by decide +kernel, rfl, by decide +kernel, by decide +kernel⟩
theorem ok_are_some_of {P : Program} {w : World} {K : PySem.W.Frag} {cl : List Addr} {mg : Str → Option Value} {base : Heap} (T : Tx K mg) : FnG P w K mg base 3 "are_some_of" ["thing", "names"] (spF K cl 2 F_are_some_of) := by
  have G_are_names := ok_are_names (P := P) (w := w) (cl := cl) (base := base) T
  exact fn_okG T.f_are_some_of T.g_are_some_of sc_are_some_of 2 3 rfl rfl rt_F rt_nx (fun _ _ _ _ _ _ us hl => match us, hl with | [_, _], _ => rfl) (fun cdv A outer s H E hr => (dss_one (ds_ret (d_and rfl (d_fn G_are_names rfl rfl hr (by decide) rfl (takes_of rfl rfl rfl rfl) (da_cons (d_var (i := 0) rfl (.inl rfl) nd_thing nc_thing) (da_cons d_int (da_cons (d_callB call_lenM o_len rfl T.n_len bt_len (da_cons (d_var (i := 1) rfl (.inr (.inl rfl)) nd_names nc_names) da_nil rfl) (by decide) nd_len rfl rfl) da_nil rfl) rfl) rfl) nd_are_names rfl rfl) (d_one (d_callB (cr_all rfl) o_all rfl T.n_all bt_all (da_cons (d_frozen (n_lc (ts := [2]) (own := [("one", 2)]) rfl ndN_are_some_of (di_any rfl (d_var (i := 0) rfl (.inl rfl) nd_thing nc_thing)) (blkOk_by rfl) (fun _ _ _ _ _ => (dg_name (i := 2) ndN_are_some_of rfl (.inl rfl) (.inr rfl))) (fun _ _ _ _ _ => dts_nil) (fun _ _ _ _ _ => (d_cmp (k_in rfl (room65 hr)) (d_var (i := 2) rfl (.inl rfl) nd_one nc_one) (d_var (i := 1) rfl (.inr (.inl rfl)) nd_names nc_names) (by with_unfolding_all rfl))) (fun _ => rfl) (by decide))) da_nil rfl) (by decide) nd_all rfl rfl))))))
theorem ndN_is_lot : (["thing", "names"] : List Str).Nodup := by decide +kernel
theorem sc_is_lot : FnScope ["thing", "names"] ["thing", "names"] (defScope (top 9)) := ⟨rfl, rfl, rfl, by decide +kernel, rfl, by decide +kernel, by decide +kernel⟩
theorem ok_is_lot {P : Program} {w : World} {K : PySem.W.Frag} {cl : List Addr} {mg : Str → Option Value} {base : Heap} (T : Tx K mg) : FnG P w K mg base 4 "is_lot" ["thing", "names"] (spF K cl 2 F_is_lot) := by
  have G_are_some_of := ok_are_some_of (P := P) (w := w) (cl := cl) (base := base) T
  exact fn_okG T.f_is_lot T.g_is_lot sc_is_lot 2 2 rfl rfl rt_F rt_nx (fun _ _ _ _ _ _ us hl => match us, hl with | [_, _], _ => rfl) (fun cdv A outer s H E hr => (dss_one (ds_ret (d_or rfl (d_cmp (k_eq rfl (room65 hr)) (d_var (i := 0) rfl (.inl rfl) nd_thing nc_thing) (d_tup da_nil) (nomark _)) (d_one (d_and rfl (d_fn G_are_some_of rfl rfl hr (by decide) rfl (takes_of rfl rfl rfl rfl) (da_cons (d_var (i := 0) rfl (.inl rfl) nd_thing nc_thing) (da_cons (d_var (i := 1) rfl (.inl rfl) nd_names nc_names) da_nil rfl) rfl) nd_are_some_of rfl rfl) (d_one (d_cmp (k_eq rfl (room65 hr)) (d_frozen (n_callTy call_list_of o_list rfl T.n_list bt_list (da_cons (d_var (i := 0) rfl (.inl rfl) nd_thing nc_thing) da_nil rfl) (by decide) nd_list rfl rfl)) (d_frozen (n_callB (call_sortM (room64 hr)) o_sorted rfl T.n_sorted bt_sorted (da_cons (d_var (i := 0) rfl (.inl rfl) nd_thing nc_thing) da_nil rfl) (by decide) nd_sorted rfl rfl)) (nomark _)))))))))
theorem ndN_law : (["script", "bag", "turn", "word", "number", "least", "most", "row", "good", "thing", "due", "names", "some", "inner", "unlike", "at", "one"] : List Str).Nodup := by decide +kernel
theorem sc_law : FnScope ["script", "bag", "turn", "word", "number", "least", "most", "row", "good", "thing", "due", "names", "some", "inner", "unlike", "at", "one"] ["script"] (defScope (top 19)) := ⟨rfl, rfl, rfl, by decide +kernel, rfl, by decide +kernel, by decide +kernel⟩
theorem okL_law {P : Program} {w : World} {K : PySem.W.Frag} {cl : List Addr} {mg : Str → Option Value} (T : Tx K mg) : ∃ fd, (∀ (s : Shared) (us : List Value), us.length = (["script"] : List Str).length → BindsTo s fd ⟨us, []⟩ ((["script"] : List Str).zip us)) ∧ ∀ base, FnOk P w K mg base (L2.CX P w) 5 (He.fAd K ("law", none)) fd ["script"] (spF K cl 1 F_law) := by
  have G__law_alike := fun base => ok__law_alike (P := P) (w := w) (cl := cl) (base := base) T
  have G__law_are_unlike := fun base => ok__law_are_unlike (P := P) (w := w) (cl := cl) (base := base) T
  have G__law_bag := fun base => ok__law_bag (P := P) (w := w) (cl := cl) (base := base) T
  have G__law_is_int := fun base => ok__law_is_int (P := P) (w := w) (cl := cl) (base := base) T
  have G__law_is_name := fun base => ok__law_is_name (P := P) (w := w) (cl := cl) (base := base) T
  have G__law_some := fun base => ok__law_some (P := P) (w := w) (cl := cl) (base := base) T
  have G__law_take := fun base => ok__law_take (P := P) (w := w) (cl := cl) (base := base) T
  have G__law_word := fun base => ok__law_word (P := P) (w := w) (cl := cl) (base := base) T
  have G_are_names := fun base => ok_are_names (P := P) (w := w) (cl := cl) (base := base) T
  have G_are_some_of := fun base => ok_are_some_of (P := P) (w := w) (cl := cl) (base := base) T
  have G_is_integer := fun base => ok_is_integer (P := P) (w := w) (cl := cl) (base := base) T
  have G_is_lot := fun base => ok_is_lot (P := P) (w := w) (cl := cl) (base := base) T
  have G_is_name := fun base => ok_is_name (P := P) (w := w) (cl := cl) (base := base) T
  have G_is_within := fun base => ok_is_within (P := P) (w := w) (cl := cl) (base := base) T
  exact fn_okL T.f_law sc_law 1 17 rfl rfl rt_F rt_nx (fun _ _ _ _ _ _ us hl => match us, hl with | [_], _ => rfl) (fun base cdv A outer s H E hr => (dss_cons (ds_set (i := 1) ndN_law rfl (.inr rfl) (d_fn (G__law_bag base) rfl rfl hr (by decide) rfl (takes_of rfl rfl rfl rfl) (da_cons (d_var (i := 0) rfl (.inl rfl) nd_script nc_script) da_nil rfl) nd__law_bag rfl rfl) rfl (.inl rfl))
  (dss_cons (ds_for (ts := [2]) (passes_of rfl) rfl (di_range1 rfl T.n_range (da_cons d_int da_nil rfl) rfl) (dg_name (i := 2) ndN_law rfl (.inl rfl) (.inl rfl)) (dss_cons (ds_par (i := 3) (j := 4) rfl ndN_law rfl rfl (by decide) rfl rfl (da_cons (d_fn (G__law_word base) rfl rfl hr (by decide) rfl (takes_of rfl rfl rfl rfl) (da_cons (d_var (i := 1) rfl (.inr (.inl rfl)) nd_bag nc_bag) da_nil rfl) nd__law_word rfl rfl) (da_cons (d_fn (G__law_some base) rfl rfl hr (by decide) rfl (takes_of rfl rfl rfl rfl) (da_cons (d_var (i := 1) rfl (.inr (.inl rfl)) nd_bag nc_bag) (da_cons (d_frozen (n_lst (da_cons d_int (da_cons d_int (da_cons (d_neg d_int) (da_cons d_int (da_cons d_bool0 (da_cons d_bool0 (da_cons d_none0 (da_cons (d_str (by decide +kernel)) (da_cons (d_pow d_int d_int) (da_cons (d_neg (d_pow d_int d_int)) (da_cons (d_tup (da_cons d_int da_nil rfl)) da_nil rfl) rfl) rfl) rfl) rfl) rfl) rfl) rfl) rfl) rfl) rfl))) da_nil rfl) rfl) nd__law_some rfl rfl) da_nil rfl) rfl) rfl rfl)
  (dss_cons (ds_par (i := 5) (j := 6) rfl ndN_law rfl rfl (by decide) rfl rfl (da_cons (d_sub (d_fn (G__law_take base) rfl rfl hr (by decide) rfl (takes_of rfl rfl rfl rfl) (da_cons (d_var (i := 1) rfl (.inr (.inl rfl)) nd_bag nc_bag) (da_cons d_int da_nil rfl) rfl) nd__law_take rfl rfl) d_int) (da_cons (d_fn (G__law_take base) rfl rfl hr (by decide) rfl (takes_of rfl rfl rfl rfl) (da_cons (d_var (i := 1) rfl (.inr (.inl rfl)) nd_bag nc_bag) (da_cons d_int da_nil rfl) rfl) nd__law_take rfl rfl) da_nil rfl) rfl) rfl rfl)
  (dss_cons (ds_if (dt_w (dw_or (dt_not (dt_truth rfl (d_fn (G__law_alike base) rfl rfl hr (by decide) rfl (takes_of rfl rfl rfl rfl) (da_cons (d_fn (G_is_name base) rfl rfl hr (by decide) rfl (takes_of rfl rfl rfl rfl) (da_cons (d_var (i := 3) rfl (.inl rfl) nd_word nc_word) da_nil rfl) nd_is_name rfl rfl) (da_cons (d_fn (G__law_is_name base) rfl rfl hr (by decide) rfl (takes_of rfl rfl rfl rfl) (da_cons (d_var (i := 3) rfl (.inl rfl) nd_word nc_word) da_nil rfl) nd__law_is_name rfl rfl) da_nil rfl) rfl) nd__law_alike rfl rfl) (fun _ => rfl))) (dw_or1 (dt_not (dt_truth rfl (d_fn (G__law_alike base) rfl rfl hr (by decide) rfl (takes_of rfl rfl rfl rfl) (da_cons (d_fn (G_is_integer base) rfl rfl hr (by decide) rfl (takes_of rfl rfl rfl rfl) (da_cons (d_var (i := 4) rfl (.inl rfl) nd_number nc_number) da_nil rfl) nd_is_integer rfl rfl) (da_cons (d_fn (G__law_is_int base) rfl rfl hr (by decide) rfl (takes_of rfl rfl rfl rfl) (da_cons (d_var (i := 4) rfl (.inl rfl) nd_number nc_number) da_nil rfl) nd__law_is_int rfl rfl) da_nil rfl) rfl) nd__law_alike rfl rfl) (fun _ => rfl)))))) (dss_one (ds_ret d_bool0)) dss_nil)
  (dss_cons (ds_if (dt_not (dt_truth rfl (d_fn (G__law_alike base) rfl rfl hr (by decide) rfl (takes_of rfl rfl rfl rfl) (da_cons (d_fn (G_is_within base) rfl rfl hr (by decide) rfl (takes_of rfl rfl rfl rfl) (da_cons (d_var (i := 4) rfl (.inl rfl) nd_number nc_number) (da_cons (d_var (i := 5) rfl (.inl rfl) nd_least nc_least) (da_cons (d_var (i := 6) rfl (.inl rfl) nd_most nc_most) da_nil rfl) rfl) rfl) nd_is_within rfl rfl) (da_cons (d_and rfl (d_fn (G__law_is_int base) rfl rfl hr (by decide) rfl (takes_of rfl rfl rfl rfl) (da_cons (d_var (i := 4) rfl (.inl rfl) nd_number nc_number) da_nil rfl) nd__law_is_int rfl rfl) (d_one (d_chain k_le k_le (d_var (i := 5) rfl (.inl rfl) nd_least nc_least) (d_var (i := 4) rfl (.inl rfl) nd_number nc_number) (d_var (i := 6) rfl (.inl rfl) nd_most nc_most) rfl))) da_nil rfl) rfl) nd__law_alike rfl rfl) (fun _ => rfl))) (dss_one (ds_ret d_bool0)) dss_nil)
  (dss_cons (ds_set (i := 7) ndN_law rfl (.inl rfl) (d_callTy call_tuple_of o_tup rfl T.n_tuple bt_tuple (da_cons (d_frozen (n_lc (ts := [15]) (own := [("at", 15)]) rfl ndN_law (di_range1 rfl T.n_range (da_cons (d_fn (G__law_take base) rfl rfl hr (by decide) rfl (takes_of rfl rfl rfl rfl) (da_cons (d_var (i := 1) rfl (.inr (.inl rfl)) nd_bag nc_bag) (da_cons d_int da_nil rfl) rfl) nd__law_take rfl rfl) da_nil rfl) rfl) (blkOk_by rfl) (fun _ _ _ _ _ => (dg_name (i := 15) ndN_law rfl (.inl rfl) (.inr rfl))) (fun _ _ _ _ _ => dts_nil) (fun _ _ _ _ _ => (d_fn (G__law_word base) rfl rfl hr (by decide) rfl takes0 (da_cons (d_var (i := 1) rfl (.inr (.inl rfl)) nd_bag nc_bag) da_nil rfl) nd__law_word rfl rfl)) (fun _ => rfl) (by decide))) da_nil rfl) (by decide) nd_tuple rfl rfl) rfl (.inl rfl))
  (dss_cons (ds_set (i := 8) ndN_law rfl (.inl rfl) (d_and rfl (d_cmp (k_eq rfl (room65 hr)) (d_frozen (n_lc (ts := [16]) (own := [("one", 16)]) rfl ndN_law (di_any rfl (d_var (i := 7) rfl (.inl rfl) nd_row nc_row)) (blkOk_by rfl) (fun _ _ _ _ _ => (dg_name (i := 16) ndN_law rfl (.inl rfl) (.inr rfl))) (fun _ _ _ _ _ => (dts_one (dt_not (dt_truth rfl (d_fn (G__law_is_name base) rfl rfl hr (by decide) rfl takes0 (da_cons (d_var (i := 16) rfl (.inl rfl) nd_one nc_one) da_nil rfl) nd__law_is_name rfl rfl) (fun _ => rfl))))) (fun _ _ _ _ _ => d_int) (fun _ => rfl) (by decide))) (d_frozen (n_lst da_nil)) (nomark _)) (d_one (d_fn (G__law_are_unlike base) rfl rfl hr (by decide) rfl (takes_of rfl rfl rfl rfl) (da_cons (d_var (i := 7) rfl (.inl rfl) nd_row nc_row) da_nil rfl) nd__law_are_unlike rfl rfl))) rfl (.inl rfl))
  (dss_cons (ds_for (ts := [9]) (passes_of rfl) rfl (di_any rfl (d_tup (da_cons (d_var (i := 7) rfl (.inl rfl) nd_row nc_row) (da_cons (d_frozen (n_callTy call_list_of o_list rfl T.n_list bt_list (da_cons (d_var (i := 7) rfl (.inl rfl) nd_row nc_row) da_nil rfl) (by decide) nd_list rfl rfl)) (da_cons d_none0 (da_cons (d_plus rfl (d_var (i := 7) rfl (.inl rfl) nd_row nc_row) (d_var (i := 7) rfl (.inl rfl) nd_row nc_row)) (da_cons (d_str (by decide +kernel)) da_nil rfl) rfl) rfl) rfl) rfl))) (dg_name (i := 9) ndN_law rfl (.inl rfl) (.inl rfl)) (dss_cons (ds_set (i := 10) ndN_law rfl (.inl rfl) (d_and rfl (d_callB call_isiM o_isi rfl T.n_isinstance bt_isinstance (da_cons (d_var (i := 9) rfl (.inl rfl) nd_thing nc_thing) (da_cons (d_bltn rfl T.n_tuple bt_tuple (by decide) nd_tuple) da_nil rfl) rfl) (by decide) nd_isinstance rfl rfl) (d_one (d_cmp (k_eq rfl (room65 hr)) (d_frozen (n_lc (ts := [16]) (own := [("one", 16)]) rfl ndN_law (di_any rfl (d_var (i := 9) rfl (.inl rfl) nd_thing nc_thing)) (blkOk_by rfl) (fun _ _ _ _ _ => (dg_name (i := 16) ndN_law rfl (.inl rfl) (.inr rfl))) (fun _ _ _ _ _ => (dts_one (dt_not (dt_truth rfl (d_fn (G__law_is_name base) rfl rfl hr (by decide) rfl takes0 (da_cons (d_var (i := 16) rfl (.inl rfl) nd_one nc_one) da_nil rfl) nd__law_is_name rfl rfl) (fun _ => rfl))))) (fun _ _ _ _ _ => d_int) (fun _ => rfl) (by decide))) (d_frozen (n_lst da_nil)) (nomark _)))) rfl (.inl rfl))
  (dss_cons (ds_set (i := 10) ndN_law rfl (.inl rfl) (d_and rfl (d_var (i := 10) rfl (.inl rfl) nd_due nc_due) (d_and rfl (d_fn (G__law_are_unlike base) rfl rfl hr (by decide) rfl (takes_of rfl rfl rfl rfl) (da_cons (d_var (i := 9) rfl (.inl rfl) nd_thing nc_thing) da_nil rfl) nd__law_are_unlike rfl rfl) (d_one (d_chain k_le k_le (d_var (i := 5) rfl (.inl rfl) nd_least nc_least) (d_callB call_lenM o_len rfl T.n_len bt_len (da_cons (d_var (i := 9) rfl (.inl rfl) nd_thing nc_thing) da_nil rfl) (by decide) nd_len rfl rfl) (d_var (i := 6) rfl (.inl rfl) nd_most nc_most) rfl)))) rfl (.inl rfl))
  (dss_one (ds_if (dt_not (dt_truth rfl (d_fn (G__law_alike base) rfl rfl hr (by decide) rfl (takes_of rfl rfl rfl rfl) (da_cons (d_fn (G_are_names base) rfl rfl hr (by decide) rfl (takes_of rfl rfl rfl rfl) (da_cons (d_var (i := 9) rfl (.inl rfl) nd_thing nc_thing) (da_cons (d_var (i := 5) rfl (.inl rfl) nd_least nc_least) (da_cons (d_var (i := 6) rfl (.inl rfl) nd_most nc_most) da_nil rfl) rfl) rfl) nd_are_names rfl rfl) (da_cons (d_var (i := 10) rfl (.inl rfl) nd_due nc_due) da_nil rfl) rfl) nd__law_alike rfl rfl) (fun _ => rfl))) (dss_one (ds_ret d_bool0)) dss_nil)))) (fun _ => rfl))
  (dss_cons (ds_set (i := 11) ndN_law rfl (.inr rfl) (d_slice rfl (d_tup (da_cons (d_str (by decide +kernel)) (da_cons (d_str (by decide +kernel)) (da_cons (d_str (by decide +kernel)) (da_cons (d_str (by decide +kernel)) da_nil rfl) rfl) rfl) rfl)) do_none (do_some (d_plus rfl d_int (d_fn (G__law_take base) rfl rfl hr (by decide) rfl (takes_of rfl rfl rfl rfl) (da_cons (d_var (i := 1) rfl (.inr (.inl rfl)) nd_bag nc_bag) (da_cons d_int da_nil rfl) rfl) nd__law_take rfl rfl)))) rfl (.inl rfl))
  (dss_cons (ds_set (i := 12) ndN_law rfl (.inl rfl) (d_callTy call_tuple_of o_tup rfl T.n_tuple bt_tuple (da_cons (d_frozen (n_lc (ts := [15]) (own := [("at", 15)]) rfl ndN_law (di_range1 rfl T.n_range (da_cons (d_fn (G__law_take base) rfl rfl hr (by decide) rfl (takes_of rfl rfl rfl rfl) (da_cons (d_var (i := 1) rfl (.inr (.inl rfl)) nd_bag nc_bag) (da_cons d_int da_nil rfl) rfl) nd__law_take rfl rfl) da_nil rfl) rfl) (blkOk_by rfl) (fun _ _ _ _ _ => (dg_name (i := 15) ndN_law rfl (.inl rfl) (.inr rfl))) (fun _ _ _ _ _ => dts_nil) (fun _ _ _ _ _ => (d_fn (G__law_some base) rfl rfl hr (by decide) rfl takes0 (da_cons (d_var (i := 1) rfl (.inr (.inl rfl)) nd_bag nc_bag) (da_cons (d_plus rfl (d_frozen (n_callTy call_list_of o_list rfl T.n_list bt_list (da_cons (d_var (i := 11) rfl (.inr (.inl rfl)) nd_names nc_names) da_nil rfl) (by decide) nd_list rfl rfl)) (d_frozen (n_lst (da_cons d_none0 (da_cons (d_str (by decide +kernel)) da_nil rfl) rfl)))) da_nil rfl) rfl) nd__law_some rfl rfl)) (fun _ => rfl) (by decide))) da_nil rfl) (by decide) nd_tuple rfl rfl) rfl (.inl rfl))
  (dss_cons (ds_for (ts := [9]) (passes_of rfl) rfl (di_any rfl (d_tup (da_cons (d_var (i := 12) rfl (.inl rfl) nd_some nc_some) (da_cons (d_frozen (n_callTy call_list_of o_list rfl T.n_list bt_list (da_cons (d_var (i := 12) rfl (.inl rfl) nd_some nc_some) da_nil rfl) (by decide) nd_list rfl rfl)) (da_cons (d_callTy call_tuple_of o_tup rfl T.n_tuple bt_tuple (da_cons (d_frozen (n_callB (call_sortM (room64 hr)) o_sorted rfl T.n_sorted bt_sorted (da_cons (d_var (i := 11) rfl (.inr (.inl rfl)) nd_names nc_names) da_nil rfl) (by decide) nd_sorted rfl rfl)) da_nil rfl) (by decide) nd_tuple rfl rfl) (da_cons (d_var (i := 11) rfl (.inr (.inl rfl)) nd_names nc_names) (da_cons (d_tup da_nil) (da_cons d_none0 (da_cons (d_plus rfl (d_var (i := 11) rfl (.inr (.inl rfl)) nd_names nc_names) (d_slice rfl (d_var (i := 11) rfl (.inr (.inl rfl)) nd_names nc_names) do_none (do_some d_int))) da_nil rfl) rfl) rfl) rfl) rfl) rfl) rfl))) (dg_name (i := 9) ndN_law rfl (.inl rfl) (.inl rfl)) (dss_cons (ds_set (i := 13) ndN_law rfl (.inl rfl) (d_and rfl (d_callB call_isiM o_isi rfl T.n_isinstance bt_isinstance (da_cons (d_var (i := 9) rfl (.inl rfl) nd_thing nc_thing) (da_cons (d_bltn rfl T.n_tuple bt_tuple (by decide) nd_tuple) da_nil rfl) rfl) (by decide) nd_isinstance rfl rfl) (d_one (d_cmp (k_eq rfl (room65 hr)) (d_frozen (n_lc (ts := [16]) (own := [("one", 16)]) rfl ndN_law (di_any rfl (d_var (i := 9) rfl (.inl rfl) nd_thing nc_thing)) (blkOk_by rfl) (fun _ _ _ _ _ => (dg_name (i := 16) ndN_law rfl (.inl rfl) (.inr rfl))) (fun _ _ _ _ _ => (dts_one (dt_cmp (k_notin rfl (room65 hr)) (d_var (i := 16) rfl (.inl rfl) nd_one nc_one) (d_var (i := 11) rfl (.inr (.inl rfl)) nd_names nc_names) (by with_unfolding_all rfl)))) (fun _ _ _ _ _ => d_int) (fun _ => rfl) (by decide))) (d_frozen (n_lst da_nil)) (nomark _)))) rfl (.inl rfl))
  (dss_cons (ds_set (i := 14) ndN_law rfl (.inl rfl) (d_and rfl (d_var (i := 13) rfl (.inl rfl) nd_inner nc_inner) (d_one (d_fn (G__law_are_unlike base) rfl rfl hr (by decide) rfl (takes_of rfl rfl rfl rfl) (da_cons (d_var (i := 9) rfl (.inl rfl) nd_thing nc_thing) da_nil rfl) nd__law_are_unlike rfl rfl))) rfl (.inl rfl))
  (dss_cons (ds_if (dt_not (dt_truth rfl (d_fn (G__law_alike base) rfl rfl hr (by decide) rfl (takes_of rfl rfl rfl rfl) (da_cons (d_fn (G_are_some_of base) rfl rfl hr (by decide) rfl (takes_of rfl rfl rfl rfl) (da_cons (d_var (i := 9) rfl (.inl rfl) nd_thing nc_thing) (da_cons (d_var (i := 11) rfl (.inr (.inl rfl)) nd_names nc_names) da_nil rfl) rfl) nd_are_some_of rfl rfl) (da_cons (d_and rfl (d_var (i := 14) rfl (.inl rfl) nd_unlike nc_unlike) (d_one (d_cmp (k_ne rfl (room65 hr)) (d_var (i := 9) rfl (.inl rfl) nd_thing nc_thing) (d_tup da_nil) (nomark _)))) da_nil rfl) rfl) nd__law_alike rfl rfl) (fun _ => rfl))) (dss_one (ds_ret d_bool0)) dss_nil)
  (dss_one (ds_if (dt_not (dt_truth rfl (d_fn (G__law_alike base) rfl rfl hr (by decide) rfl (takes_of rfl rfl rfl rfl) (da_cons (d_fn (G_is_lot base) rfl rfl hr (by decide) rfl (takes_of rfl rfl rfl rfl) (da_cons (d_var (i := 9) rfl (.inl rfl) nd_thing nc_thing) (da_cons (d_var (i := 11) rfl (.inr (.inl rfl)) nd_names nc_names) da_nil rfl) rfl) nd_is_lot rfl rfl) (da_cons (d_and rfl (d_var (i := 14) rfl (.inl rfl) nd_unlike nc_unlike) (d_one (d_cmp (k_eq rfl (room65 hr)) (d_frozen (n_callTy call_list_of o_list rfl T.n_list bt_list (da_cons (d_var (i := 9) rfl (.inl rfl) nd_thing nc_thing) da_nil rfl) (by decide) nd_list rfl rfl)) (d_frozen (n_callB (call_sortM (room64 hr)) o_sorted rfl T.n_sorted bt_sorted (da_cons (d_var (i := 9) rfl (.inl rfl) nd_thing nc_thing) da_nil rfl) (by decide) nd_sorted rfl rfl)) (nomark _)))) da_nil rfl) rfl) nd__law_alike rfl rfl) (fun _ => rfl))) (dss_one (ds_ret d_bool0)) dss_nil))))) (fun _ => rfl))
  (dss_one (ds_if (dt_cmp (k_ne rfl (room65 hr)) (d_var (i := 8) rfl (.inl rfl) nd_good nc_good) (d_cmp k_is (d_fn (G_are_names base) rfl rfl hr (by decide) rfl (takes_of rfl rfl rfl rfl) (da_cons (d_var (i := 7) rfl (.inl rfl) nd_row nc_row) (da_cons d_int (da_cons d_int da_nil rfl) rfl) rfl) nd_are_names rfl rfl) d_bool0 (nomark _)) (nomark _)) (dss_one (ds_ret d_bool0)) dss_nil)))))))))))) (fun _ => rfl))
  (dss_one (ds_ret d_bool0)))))
end Lk01
end
section
set_option Elab.async false
set_option linter.all false
set_option maxRecDepth 100000
set_option maxHeartbeats 0
set_option autoImplicit false
namespace Lk01
open PySem PySem.Spec L2 NV
def dd__law_bag : He.DefD := ⟨("_law_bag", none), "_law_bag", "_law_bag", defArgs (top 13), defBody (top 13), defScope (top 13), [], []⟩
def dd__law_take : He.DefD := ⟨("_law_take", none), "_law_take", "_law_take", defArgs (top 11), defBody (top 11), defScope (top 11), [], []⟩
def dd__law_some : He.DefD := ⟨("_law_some", none), "_law_some", "_law_some", defArgs (top 12), defBody (top 12), defScope (top 12), [], []⟩
def dd__law_word : He.DefD := ⟨("_law_word", none), "_law_word", "_law_word", defArgs (top 17), defBody (top 17), defScope (top 17), [], []⟩
def dd__law_alike : He.DefD := ⟨("_law_alike", none), "_law_alike", "_law_alike", defArgs (top 14), defBody (top 14), defScope (top 14), [], []⟩
def dd__law_are_unlike : He.DefD := ⟨("_law_are_unlike", none), "_law_are_unlike", "_law_are_unlike", defArgs (top 18), defBody (top 18), defScope (top 18), [], []⟩
def dd_is_integer : He.DefD := ⟨("is_integer", none), "is_integer", "is_integer", defArgs (top 4), defBody (top 4), defScope (top 4), [], []⟩
def dd_is_within : He.DefD := ⟨("is_within", none), "is_within", "is_within", defArgs (top 5), defBody (top 5), defScope (top 5), [], []⟩
def dd_is_name : He.DefD := ⟨("is_name", none), "is_name", "is_name", defArgs (top 6), defBody (top 6), defScope (top 6), [], []⟩
def dd_are_names : He.DefD := ⟨("are_names", none), "are_names", "are_names", defArgs (top 7), defBody (top 7), defScope (top 7), [], []⟩
def dd__law_is_name : He.DefD := ⟨("_law_is_name", none), "_law_is_name", "_law_is_name", defArgs (top 16), defBody (top 16), defScope (top 16), [], []⟩
def dd__law_is_int : He.DefD := ⟨("_law_is_int", none), "_law_is_int", "_law_is_int", defArgs (top 15), defBody (top 15), defScope (top 15), [], []⟩
def dd_are_some_of : He.DefD := ⟨("are_some_of", none), "are_some_of", "are_some_of", defArgs (top 8), defBody (top 8), defScope (top 8), [], []⟩
def dd_is_lot : He.DefD := ⟨("is_lot", none), "is_lot", "is_lot", defArgs (top 9), defBody (top 9), defScope (top 9), [], []⟩
def dd_law : He.DefD := ⟨("law", none), "law", "law", defArgs (top 19), defBody (top 19), defScope (top 19), [], []⟩
def fa : List He.Fa := ([.glo "_law_bag", .glo "_law_take", .glo "_law_some", .glo "_law_word", .glo "_law_alike", .glo "_law_are_unlike", .glo "is_integer", .glo "is_within", .glo "is_name", .glo "are_names", .glo "_law_is_name", .glo "_law_is_int", .glo "are_some_of", .glo "is_lot", .glo "law", .free "abs", .free "all", .free "bool", .free "int", .free "isinstance", .free "len", .free "list", .free "range", .free "sorted", .free "str", .free "tuple", .free "zip", .str "LETTERS" "abcdefghijklmnopqrstuvwxyz", .glo "RESERVED", .int "MOST_NAME" 8] : List He.Fa)
def fn : List He.DefD := ([dd__law_bag, dd__law_take, dd__law_some, dd__law_word, dd__law_alike, dd__law_are_unlike, dd_is_integer, dd_is_within, dd_is_name, dd_are_names, dd__law_is_name, dd__law_is_int, dd_are_some_of, dd_is_lot, dd_law] : List He.DefD)
def exB (K : PySem.W.Frag) : Bool := He.tupB K "RESERVED" [.str "by", .str "from", .str "move", .str "of", .str "reads", .str "secret", .str "sign", .str "sounds", .str "state", .str "to", .str "word"]
abbrev R : PySem.W.OpenRow := PySem.W.OpenLaw.row PySem.Challenge.rw_neversure_k01_forms_of_any_values
abbrev hk : PySem.W.Hook := He.hookX 4 fa fn [] [] exB
def ob (s : PySem.W.SharedT) : He.AlX := He.obsX 4 fa fn [] [] exB (HandSHeadRun.getT s)
theorem ob_eq (s : PySem.W.SharedT) : ob s = hk.obs s.abs := He.obsX_eq (HandSHeadRun.getT_eq s)
abbrev loose : List Str := (["__name__", "LETTERS", "RESERVED", "MOST_NAME", "is_integer", "is_within", "is_name", "are_names", "are_some_of", "is_lot", "_law_take", "_law_some", "_law_bag", "_law_alike", "_law_is_int", "_law_is_name", "_law_word", "_law_are_unlike"] : List Str)
theorem run (w : World) : HandSHeadRun.RunEq R (PySem.W.view R.prog [19]) hk ob 3000 loose w := by
  intro os
  kernel_rfl
theorem tx {w : World} {K : PySem.W.Frag} {h : Heap} {mg : Str → Option Value} (X : K.In h) (G : h.Ns mainGlobals mg) (c : He.SaysX fa fn [] [] exB w h K) : Tx K mg where
  n_abs := He.free_ok X G (c.t.d.fact 15 (f := .free "abs") rfl)
  n_all := He.free_ok X G (c.t.d.fact 16 (f := .free "all") rfl)
  n_bool := He.free_ok X G (c.t.d.fact 17 (f := .free "bool") rfl)
  n_int := He.free_ok X G (c.t.d.fact 18 (f := .free "int") rfl)
  n_isinstance := He.free_ok X G (c.t.d.fact 19 (f := .free "isinstance") rfl)
  n_len := He.free_ok X G (c.t.d.fact 20 (f := .free "len") rfl)
  n_list := He.free_ok X G (c.t.d.fact 21 (f := .free "list") rfl)
  n_range := He.free_ok X G (c.t.d.fact 22 (f := .free "range") rfl)
  n_sorted := He.free_ok X G (c.t.d.fact 23 (f := .free "sorted") rfl)
  n_str := He.free_ok X G (c.t.d.fact 24 (f := .free "str") rfl)
  n_tuple := He.free_ok X G (c.t.d.fact 25 (f := .free "tuple") rfl)
  n_zip := He.free_ok X G (c.t.d.fact 26 (f := .free "zip") rfl)
  c_LETTERS := He.str_ok X G (c.t.d.fact 27 (f := .str "LETTERS" "abcdefghijklmnopqrstuvwxyz") rfl)
  c_RESERVED := He.glo_ok X G (c.t.d.fact 28 (f := .glo "RESERVED") rfl)
  t_RESERVED := He.tupB_ok (vs := [.str "by", .str "from", .str "move", .str "of", .str "reads", .str "secret", .str "sign", .str "sounds", .str "state", .str "to", .str "word"]) c.more
  c_MOST_NAME := He.int_ok X G (c.t.d.fact 29 (f := .int "MOST_NAME" 8) rfl)
  g__law_bag := He.glo_ok X G (c.t.d.fact 0 (f := .glo "_law_bag") rfl)
  f__law_bag := c.t.d.def_ 0 (d := dd__law_bag) rfl
  g__law_take := He.glo_ok X G (c.t.d.fact 1 (f := .glo "_law_take") rfl)
  f__law_take := c.t.d.def_ 1 (d := dd__law_take) rfl
  g__law_some := He.glo_ok X G (c.t.d.fact 2 (f := .glo "_law_some") rfl)
  f__law_some := c.t.d.def_ 2 (d := dd__law_some) rfl
  g__law_word := He.glo_ok X G (c.t.d.fact 3 (f := .glo "_law_word") rfl)
  f__law_word := c.t.d.def_ 3 (d := dd__law_word) rfl
  g__law_alike := He.glo_ok X G (c.t.d.fact 4 (f := .glo "_law_alike") rfl)
  f__law_alike := c.t.d.def_ 4 (d := dd__law_alike) rfl
  g__law_are_unlike := He.glo_ok X G (c.t.d.fact 5 (f := .glo "_law_are_unlike") rfl)
  f__law_are_unlike := c.t.d.def_ 5 (d := dd__law_are_unlike) rfl
  g_is_integer := He.glo_ok X G (c.t.d.fact 6 (f := .glo "is_integer") rfl)
  f_is_integer := c.t.d.def_ 6 (d := dd_is_integer) rfl
  g_is_within := He.glo_ok X G (c.t.d.fact 7 (f := .glo "is_within") rfl)
  f_is_within := c.t.d.def_ 7 (d := dd_is_within) rfl
  g_is_name := He.glo_ok X G (c.t.d.fact 8 (f := .glo "is_name") rfl)
  f_is_name := c.t.d.def_ 8 (d := dd_is_name) rfl
  g_are_names := He.glo_ok X G (c.t.d.fact 9 (f := .glo "are_names") rfl)
  f_are_names := c.t.d.def_ 9 (d := dd_are_names) rfl
  g__law_is_name := He.glo_ok X G (c.t.d.fact 10 (f := .glo "_law_is_name") rfl)
  f__law_is_name := c.t.d.def_ 10 (d := dd__law_is_name) rfl
  g__law_is_int := He.glo_ok X G (c.t.d.fact 11 (f := .glo "_law_is_int") rfl)
  f__law_is_int := c.t.d.def_ 11 (d := dd__law_is_int) rfl
  g_are_some_of := He.glo_ok X G (c.t.d.fact 12 (f := .glo "are_some_of") rfl)
  f_are_some_of := c.t.d.def_ 12 (d := dd_are_some_of) rfl
  g_is_lot := He.glo_ok X G (c.t.d.fact 13 (f := .glo "is_lot") rfl)
  f_is_lot := c.t.d.def_ 13 (d := dd_is_lot) rfl
  g_law := He.glo_ok X G (c.t.d.fact 14 (f := .glo "law") rfl)
  f_law := c.t.d.def_ 14 (d := dd_law) rfl
theorem holds_of (pl : ∀ ns : List Int, ns.length ≤ 63 → ∃ M', F_law [.frl (ns.map .int)] [] = .ok (.bl true) M') : PySem.Challenge.rw_neversure_k01_forms_of_any_values.Holds := by
  open PySem.W PySem.Calls PyProof.Rows in
  w_on; o_law
  refine HandSHeadRun.head_any (r := PySem.W.OpenLaw.row PySem.Challenge.rw_neversure_k01_forms_of_any_values) (q := PySem.W.view (PySem.W.OpenLaw.row PySem.Challenge.rw_neversure_k01_forms_of_any_values).prog [19]) (H := hk) (ob := ob) (M := 3000) (loose := loose) (d := HandSHeadRun.topDef (PySem.W.OpenLaw.row PySem.Challenge.rw_neversure_k01_forms_of_any_values).prog 19) (kwd := []) ob_eq
    (by kernel_rfl) (fun s => by kernel_rfl) run (by kernel_rfl) (by kernel_rfl) (by kernel_rfl) (by rfl) (by first | assumption | decide +kernel) (by decide +kernel) ⟨rfl, rfl, rfl, rfl, rfl, by decide +kernel⟩ ?hw ?hc
  case hw => w_witness2
  case hc =>
    refine L2.walk_ofE (l := PySem.Challenge.rw_neversure_k01_forms_of_any_values) (n := 63) (k := 5) (x := "script") (CX := L2.CX0) rfl (by decide) (by kernel_rfl) ⟨rfl, by decide, by decide⟩ ?F (fun _ _ _ _ z => z)
    intro w mg fa h Y G hmg0
    obtain ⟨K, KX, c⟩ := Y
    have hmg : mg ("law" : PySem.Str) = some (.ref fa) := by
      have e : (HandSHeadRun.topDef (PySem.W.OpenLaw.row PySem.Challenge.rw_neversure_k01_forms_of_any_values).prog 19).name = ("law" : PySem.Str) := by kernel_rfl
      rw [← e]
      exact hmg0
    have T := tx KX G c
    obtain ⟨fd, sp, h1, h2, h3⟩ := law_F (P := (PySem.Challenge.rw_neversure_k01_forms_of_any_values).prog) (w := w) (cl := []) pl hmg T.g_law (okL_law T)
    exact ⟨K, fd, sp, KX, h1, h2, fun base _ _ => h3 base⟩
end Lk01
end
section
set_option Elab.async false
set_option linter.all false
set_option maxRecDepth 100000
set_option maxHeartbeats 4000000
set_option autoImplicit false
namespace Lk01
open PySem PySem.Spec L2 NV
/-! ### calls -/
theorem body1 {s : Sx} {nl : Nat} {d x : D} {M M' : MS} (e : s ([some d] ++ List.replicate (nl - 1) none) M = .ret x M') (h : retF M M' x = .ok x M) : bodyF retF 1 nl s [d] M = .ok x M := by
  show (if [d].length = 1 then outF retF M (s ([some d] ++ List.replicate (nl - 1) none) M) else .fail) = _
  rw [if_pos (show [d].length = 1 from rfl), e]
  exact h
theorem body2 {s : Sx} {nl : Nat} {d d' x : D} {M M' : MS} (e : s ([some d, some d'] ++ List.replicate (nl - 2) none) M = .ret x M') (h : retF M M' x = .ok x M) : bodyF retF 2 nl s [d, d'] M = .ok x M := by
  show (if [d, d'].length = 2 then outF retF M (s ([some d, some d'] ++ List.replicate (nl - 2) none) M) else .fail) = _
  rw [if_pos (show [d, d'].length = 2 from rfl), e]
  exact h
theorem body3 {s : Sx} {nl : Nat} {d d' d'' x : D} {M M' : MS} (e : s ([some d, some d', some d''] ++ List.replicate (nl - 3) none) M = .ret x M') (h : retF M M' x = .ok x M) : bodyF retF 3 nl s [d, d', d''] M = .ok x M := by
  show (if [d, d', d''].length = 3 then outF retF M (s ([some d, some d', some d''] ++ List.replicate (nl - 3) none) M) else .fail) = _
  rw [if_pos (show [d, d', d''].length = 3 from rfl), e]
  exact h
theorem retS {M : MS} {b : Bool} : retF M M (.bl b) = .ok (.bl b) M := retF_self rfl
/-! ### whole numbers -/
def isInt : D → Bool
  | .int _ => true
  | _ => false
theorem isi_any {M : MS} {d : D} (p : d.plain = true) : ∃ T, T ∈ isT ∧ tyD M d = some T ∧ ∀ t ∈ isC, bIsi [d, .ty t] M = some (.bl (isB T t)) := by
  cases d <;> first | exact absurd p Bool.false_ne_true | exact ⟨_, by decide, rfl, fun t ht => by simp [bIsi, tyD, ht]⟩
theorem int_spec {M : MS} {d : D} (p : d.plain = true) : F_is_integer [d] M = .ok (.bl (isInt d)) M ∧ F__law_is_int [d] M = .ok (.bl (isInt d)) M := by
  have h1 : bIsi [d, .ty "int"] M = some (.bl (isInt d || (match d with | .bl _ => true | _ => false))) := by
    cases d <;> first | exact absurd p Bool.false_ne_true | rfl | (simp [bIsi, tyD, isB, isC, isInt])
  have h2 : bIsi [d, .ty "bool"] M = some (.bl (match d with | .bl _ => true | _ => false)) := by
    cases d <;> first | exact absurd p Bool.false_ne_true | rfl | (simp [bIsi, tyD, isB, isC])
  have e : s_is_integer [some d] M = .ret (.bl (isInt d)) M := by
    cases d <;> first | exact absurd p Bool.false_ne_true | (simp at h1 h2; simp [s_is_integer, sSeq, sIf, sSet, sRet, sExpr, sPass, tBl, tAndF, tOrF, tNotF, fTru, tru, f2, f1, fN, fVar, fC, fCall, aCons, aNil, fAnd, fOr, fNot, fIf, fChain, fLst, nLst, fTup, h1, h2, isInt])
  exact ⟨body1 (nl := 1) e retS, body1 (nl := 1) e retS⟩

/-! ### names -/
abbrev ABC : Str := "abcdefghijklmnopqrstuvwxyz"
def resv (s : Str) : Bool := (ps ds_RESERVED).any fun b => PyData.eqv b (.str s)
def inABC (s : Str) : Bool := !(Builtin.Str.occurrences ABC s 0 ABC.length 1).isEmpty
def nmS (s : Str) : Bool := (decide (1 ≤ s.length) && decide (s.length ≤ 8)) && !resv s && s.cps.toList.all fun c => inABC ⟨#[c]⟩
def nm : D → Bool
  | .str s => nmS s
  | _ => false
theorem res_in {M : MS} {s : Str} : cIn (.str s) (.frt ds_RESERVED) M = some (.bl (resv s)) := by
  have h1 : plains ds_RESERVED = true := rfl
  simp [cIn, aIn, hasIn, getD, dkOf, dtOf, h1, PyData.depth, resv]
theorem res_in2 {M : MS} {s : Str} : cIn (.str s) (.tup ds_RESERVED) M = some (.bl (resv s)) := by
  have h1 : plains ds_RESERVED = true := rfl
  simp [cIn, aIn, hasIn, getD, dkOf, dtOf, h1, PyData.depth, resv]
theorem abc_in {M : MS} {s : Str} : cIn (.str s) (.str ABC) M = some (.bl (inABC s)) := rfl
theorem abc_nin {M : MS} {s : Str} : cNotIn (.str s) (.str ABC) M = some (.bl (!inABC s)) := rfl
theorem str_isi {M : MS} {d : D} (p : d.plain = true) : bIsi [d, .ty "str"] M = some (.bl (match d with | .str _ => true | _ => false)) := by
  cases d <;> first | exact absurd p Bool.false_ne_true | rfl | (simp [bIsi, tyD, isB, isC])
theorem bls_map {xs : List Bool} : blsOf (xs.map .bl) = some xs := by
  induction xs with
  | nil => rfl
  | cons x xs ih => simp [blsOf, ih]
theorem src_str {M : MS} {s : Str} : srcOf M (.str s) = some ⟨charsD s, []⟩ := rfl
theorem mem_chars {s : Str} {d : D} (h : d ∈ charsD s) : ∃ c ∈ s.cps.toList, d = .str ⟨#[c]⟩ := by
  obtain ⟨c, hc, rfl⟩ := List.mem_map.mp h
  exact ⟨c, hc, rfl⟩
theorem chars_len (s : Str) : (charsD s).length = s.length := by simp [charsD, Str.length]
def strD : D → Str
  | .str s => s
  | _ => ⟨#[]⟩
theorem name_comp {M : MS} {s : Str} {x1 : Option D} (hl : s.length ≤ 8) : lcF [] (xName 1) fYes (f2 cIn (fVar 1) (fC (.str ABC))) [some (.str s), none] (charsD s) [] M = .ok ((s.cps.toList.map fun c => inABC ⟨#[c]⟩).map .bl) M := by
  rw [lcF_pure (p := fun _ => true) (h := fun d => .bl (inABC (strD d))) gOk_nil (fun x hx => ?_) (by rw [chars_len, sizeLine_eq]; simp; omega)]
  · rw [List.filter_eq_self.mpr (fun _ _ => rfl)]
    simp [charsD, strD]
  · obtain ⟨c, _, rfl⟩ := mem_chars hx
    exact ⟨_, rfl, rfl, fun _ => by simp [f2, fVar, fC, abc_in, strD]⟩
theorem is_name_spec {M : MS} {d : D} (p : d.plain = true) : F_is_name [d] M = .ok (.bl (nm d)) M := by
  have hs := str_isi (M := M) p
  refine body1 (nl := 2) (M' := M) ?_ retS
  cases d with
  | str s =>
    have hlen : bLen [.str s] M = some (.int s.length) := rfl
    have c1 : cLe (.int 1) (.int s.length) M = some (.bl (decide (1 ≤ s.length))) := by simp; omega
    have c2 : cLe (.int s.length) (.int 8) M = some (.bl (decide (s.length ≤ 8))) := by simp; omega
    by_cases h1 : 1 ≤ s.length
    · by_cases h2 : s.length ≤ 8
      · have key := name_comp (M := M) (x1 := none) h2
        cases h3 : resv s with
        | true => simp [s_is_name, sSeq, sIf, sSet, sRet, sExpr, sPass, tBl, tAndF, tOrF, tNotF, fTru, tru, f2, f1, fN, fVar, fC, fCall, aCons, aNil, fAnd, fOr, fNot, fIf, fChain, fLst, nLst, fTup, hs, hlen, c1, c2, h1, h2, res_in, h3, nm, nmS]
        | false =>
          have e : bAll [.lst ((s.cps.toList.map fun c => inABC ⟨#[c]⟩).map .bl)] M = some (.bl (s.cps.toList.all fun c => inABC ⟨#[c]⟩)) := by
            show (blsOf ((s.cps.toList.map fun c => inABC ⟨#[c]⟩).map .bl)).map (fun bs => D.bl (bs.all id)) = _
            rw [bls_map]
            simp [List.all_map, Function.comp_def]
          simp [s_is_name, sSeq, sIf, sSet, sRet, sExpr, sPass, tBl, tAndF, tOrF, tNotF, fTru, tru, f2, f1, fN, fVar, fC, fCall, aCons, aNil, fAnd, fOr, fNot, fIf, fChain, fLst, nLst, fTup, nLc, fSrc, wipeN, hs, hlen, c1, c2, h1, h2, res_in, h3, key, src_str, nm, nmS, -List.map_map, e]
      · simp [s_is_name, sSeq, sIf, sSet, sRet, sExpr, sPass, tBl, tAndF, tOrF, tNotF, fTru, tru, f2, f1, fN, fVar, fC, fCall, aCons, aNil, fAnd, fOr, fNot, fIf, fChain, fLst, nLst, fTup, hs, hlen, c1, c2, h1, h2, nm, nmS]
    · simp [s_is_name, sSeq, sIf, sSet, sRet, sExpr, sPass, tBl, tAndF, tOrF, tNotF, fTru, tru, f2, f1, fN, fVar, fC, fCall, aCons, aNil, fAnd, fOr, fNot, fIf, fChain, fLst, nLst, fTup, hs, hlen, c1, h1, nm, nmS]
  | ref n => exact absurd p Bool.false_ne_true
  | dcK n => exact absurd p Bool.false_ne_true
  | dcT n => exact absurd p Bool.false_ne_true
  | ty n => exact absurd p Bool.false_ne_true
  | _ => simp at hs; simp [s_is_name, sSeq, sIf, sSet, sRet, sExpr, sPass, tBl, tAndF, tOrF, tNotF, fTru, tru, f2, f1, fN, fVar, fC, fCall, aCons, aNil, fAnd, fOr, fNot, fIf, fChain, fLst, nLst, fTup, hs, nm]
end Lk01
end
section
set_option Elab.async false
set_option linter.all false
set_option maxRecDepth 100000
set_option maxHeartbeats 4000000
set_option autoImplicit false
namespace Lk01
open PySem PySem.Spec L2 NV

theorem aEq_nil {M : MS} {xs : List D} (h : plains xs = true) : aEq (.lst xs) (.lst []) M = some (.bl xs.isEmpty) := by
  have hd : min (PyData.depth (.list (ps xs))) (PyData.depth (.list [])) ≤ 64 := by
    have : PyData.depth (.list []) ≤ 64 := by decide
    omega
  cases xs with
  | nil => rfl
  | cons x xs => simp at h hd; simp [aEq, h, hd, PyData.eqv, PyData.eqvAll]
theorem plains_ones {α : Type} (xs : List α) : plains (xs.map fun _ => D.int 1) = true := plains_iff.mpr fun x hx => by
  obtain ⟨_, _, rfl⟩ := List.mem_map.mp hx
  rfl
theorem name_comp2 {M : MS} {s : Str} {rs : D} (hl : s.length ≤ 8) : lcF [] (xName 2) (tBl (f2 cNotIn (fVar 2) (fC (.str ABC)))) (fC (.int 1)) [some (.str s), some rs, none] (charsD s) [] M = .ok (((charsD s).filter fun d => !inABC (strD d)).map fun _ => .int 1) M := by
  rw [lcF_pure (p := fun d => !inABC (strD d)) (h := fun d => .int 1) gOk_nil (fun x hx => ?_) (by rw [chars_len, sizeLine_eq]; simp; omega)]
  · rfl
  · obtain ⟨c, _, rfl⟩ := mem_chars hx
    exact ⟨_, rfl, by simp [tBl, f2, fVar, fC, abc_nin, strD], fun _ => rfl⟩
theorem filt_empty {α : Type} (p : α → Bool) (xs : List α) : (((xs.filter fun x => !p x).map fun _ => D.int 1).isEmpty) = xs.all p := by
  induction xs with
  | nil => rfl
  | cons x xs ih =>
    cases h : p x <;> simp [List.filter_cons, h]
    simpa using ih
theorem law_is_name_spec {M : MS} {d : D} (p : d.plain = true) : F__law_is_name [d] M = .ok (.bl (nm d)) M := by
  have hs := str_isi (M := M) p
  have hz : 11 ≤ sizeLine := by rw [sizeLine_eq]; decide
  refine body1 (nl := 3) (M' := M) ?_ retS
  have hset : ∀ d : D, sSet 1 (fTup (aCons (fC (.str "by")) (aCons (fC (.str "from")) (aCons (fC (.str "move")) (aCons (fC (.str "of")) (aCons (fC (.str "reads")) (aCons (fC (.str "secret")) (aCons (fC (.str "sign")) (aCons (fC (.str "sounds")) (aCons (fC (.str "state")) (aCons (fC (.str "to")) (aCons (fC (.str "word")) aNil)))))))))))) [some d, none, none] M = .nx [some d, some (.tup ds_RESERVED), none] M := fun d => by
    simp [sSet, fTup, aCons, aNil, fC, hz, ds_RESERVED]
  show s__law_is_name [some d, none, none] M = _
  unfold s__law_is_name
  simp only [sSeq]
  rw [hset d, thenS_nx]
  cases d with
  | str s =>
    have hlen : bLen [.str s] M = some (.int s.length) := rfl
    have c1 : cLe (.int 1) (.int s.length) M = some (.bl (decide (1 ≤ s.length))) := by simp; omega
    have c2 : cLe (.int s.length) (.int 8) M = some (.bl (decide (s.length ≤ 8))) := by simp; omega
    by_cases h1 : 1 ≤ s.length
    · by_cases h2 : s.length ≤ 8
      · have key := name_comp2 (M := M) (rs := .tup ds_RESERVED) h2
        cases h3 : resv s with
        | true => simp [sSeq, sIf, sSet, sRet, sExpr, sPass, tBl, tAndF, tOrF, tNotF, fTru, tru, f2, f1, fN, fVar, fC, fCall, aCons, aNil, fAnd, fOr, fNot, fIf, fChain, fLst, nLst, fTup, hs, hlen, c1, c2, h1, h2, res_in2, h3, nm, nmS]
        | false =>
          have e : aEq (.lst (((charsD s).filter fun d => !inABC (strD d)).map fun _ => .int 1)) (.lst []) M = some (.bl (s.cps.toList.all fun c => inABC ⟨#[c]⟩)) := by
            rw [aEq_nil (plains_ones _), filt_empty]
            simp [charsD, strD, List.all_map, Function.comp_def]
          simp [sSeq, sIf, sSet, sRet, sExpr, sPass, tBl, tAndF, tOrF, tNotF, fTru, tru, f2, f1, fN, fVar, fC, fCall, aCons, aNil, fAnd, fOr, fNot, fIf, fChain, fLst, nLst, fTup, nLc, fSrc, wipeN, hs, hlen, c1, c2, h1, h2, res_in2, h3, key, src_str, nm, nmS, -List.map_map, e]
      · simp [sSeq, sIf, sSet, sRet, sExpr, sPass, tBl, tAndF, tOrF, tNotF, fTru, tru, f2, f1, fN, fVar, fC, fCall, aCons, aNil, fAnd, fOr, fNot, fIf, fChain, fLst, nLst, fTup, hs, hlen, c1, c2, h1, h2, nm, nmS]
    · simp [sSeq, sIf, sSet, sRet, sExpr, sPass, tBl, tAndF, tOrF, tNotF, fTru, tru, f2, f1, fN, fVar, fC, fCall, aCons, aNil, fAnd, fOr, fNot, fIf, fChain, fLst, nLst, fTup, hs, hlen, c1, h1, nm, nmS]
  | ref n => exact absurd p Bool.false_ne_true
  | dcK n => exact absurd p Bool.false_ne_true
  | dcT n => exact absurd p Bool.false_ne_true
  | ty n => exact absurd p Bool.false_ne_true
  | _ => simp at hs; simp [sSeq, sIf, sSet, sRet, sExpr, sPass, tBl, tAndF, tOrF, tNotF, fTru, tru, f2, f1, fN, fVar, fC, fCall, aCons, aNil, fAnd, fOr, fNot, fIf, fChain, fLst, nLst, fTup, hs, nm]
end Lk01
end
section
set_option Elab.async false
set_option linter.all false
set_option maxRecDepth 100000
set_option maxHeartbeats 4000000
set_option autoImplicit false
namespace Lk01
open PySem PySem.Spec L2 NV
section
variable {η η' : Nv} {M M1 M2 M3 : MS} {f fx fy : Fx D} {n : Fx (List D)} {φ : D → D → MS → Option D} {x y z : D} {xs : List D} {a b : Sx} {r : SRes} {i : Nat}
theorem sRet_ok (h : f η M = .ok x M1) : sRet f η M = .ret x M1 := by unfold sRet; rw [h]; rfl
theorem f2_ok (h : fx η M = .ok x M1) (h' : fy η M1 = .ok y M2) (e : φ x y M2 = some z) : f2 φ fx fy η M = .ok z M2 := by unfold f2; rw [h, bindR_ok, h', bindR_ok, e]; rfl
theorem fLst_ok (h : n η M = .ok xs M1) : fLst n η M = .ok (.lst xs) M1 := by unfold fLst; rw [h]; rfl
theorem sSeq_nx (h : a η M = .nx η' M1) (h' : b η' M1 = r) : sSeq a b η M = r := by unfold sSeq; rw [h, thenS_nx, h']
theorem sSeq_ret {d : D} (h : a η M = .ret d M1) (h' : r = .ret d M1) : sSeq a b η M = r := by unfold sSeq; rw [h, thenS_ret, h']
theorem aCons_ok {g : Fx (List D)} (h : f η M = .ok x M1) (h' : g η M1 = .ok xs M2) : aCons f g η M = .ok (x :: xs) M2 := by unfold aCons; rw [h, bindR_ok, h']; rfl
theorem fN_ok {β : List D → MS → Option D} {g : Fx (List D)} (h : g η M = .ok xs M1) (e : β xs M1 = some z) : fN β g η M = .ok z M1 := by unfold fN; rw [h, bindR_ok, e]; rfl
theorem sSet_ok (h : f η M = .ok x M1) : sSet i f η M = .nx (η.set i (some x)) M1 := by unfold sSet; rw [h]; rfl
theorem sIf_no {c : Fx Bool} (h : c η M = .ok false M1) (h' : b η M1 = r) : sIf c a b η M = r := by unfold sIf; rw [h, bindS_ok]; simp [h']
theorem sIf_yes {c : Fx Bool} (h : c η M = .ok true M1) (h' : a η M1 = r) : sIf c a b η M = r := by unfold sIf; rw [h, bindS_ok]; simp [h']
end
theorem plains_strs (L : List Str) : plains (L.map .str) = true := plains_iff.mpr fun x hx => by
  obtain ⟨_, _, rfl⟩ := List.mem_map.mp hx
  rfl
theorem ps_strs (L : List Str) : ps (L.map .str) = L.map .str := by
  induction L with
  | nil => rfl
  | cons x L ih => simp [ih]
theorem any_strs (L : List Str) (s : Str) : ((L.map PyData.str).any fun b => PyData.eqv b (.str s)) = decide (s ∈ L) := by
  induction L with
  | nil => simp
  | cons x L ih =>
    rw [List.map_cons, List.any_cons, ih]
    by_cases h : s = x
    · subst h; simp [PyData.eqv]
    · have h' : ¬ x = s := fun e => h e.symm
      simp [PyData.eqv, h, h']
theorem hasIn_strs {M : MS} {s : Str} {L : List Str} : hasIn (.str s) (.tup (L.map .str)) M = some (decide (s ∈ L)) := by
  have h1 := plains_strs L
  simp only [hasIn, getD, dkOf, dtOf, pD_str, pD_tup, if_pos h1, ps_strs, any_strs]
  rw [if_pos (by simp [PyData.depth])]
theorem cIn_strs {M : MS} {s : Str} {L : List Str} : cIn (.str s) (.tup (L.map .str)) M = some (.bl (decide (s ∈ L))) := by
  unfold cIn aIn
  rw [hasIn_strs]
  rfl
theorem cNotIn_strs {M : MS} {s : Str} {L : List Str} : cNotIn (.str s) (.tup (L.map .str)) M = some (.bl (!decide (s ∈ L))) := by
  unfold cNotIn aIn
  rw [hasIn_strs]
  rfl
theorem cut_take {α : Type} {xs : List α} {i : Nat} (h : i ≤ xs.length) : cut xs none (some (i : Int)) = xs.take i := by
  have h1 : HT.sIx xs.length 0 none = 0 := rfl
  have h2 : HT.sIx xs.length xs.length (some (i : Int)) = i := by
    rw [HT.sIx_nat]
    omega
  unfold cut
  rw [h1, h2]
  simp
def dupAt (L : List Str) : D → Bool
  | .int i => decide (L.getD i.toNat ⟨#[]⟩ ∈ L.take i.toNat)
  | _ => false
theorem dup_empty (L : List Str) : ((((rangeD 0 L.length).filter (dupAt L)).map fun _ => D.int 1).isEmpty) = decide L.Nodup := by
  have h : (((rangeD 0 L.length).filter (dupAt L)).map fun _ => D.int 1).isEmpty = true ↔ L.Nodup := by
    rw [List.isEmpty_iff, List.map_eq_nil_iff, List.filter_eq_nil_iff]
    rw [List.Nodup, List.pairwise_iff_getElem]
    constructor
    · intro h i j hi hj hij e
      refine h (.int j) (List.mem_map.mpr ⟨j, List.mem_range.mpr hj, by simp⟩) ?_
      simp only [dupAt, Int.toNat_natCast, decide_eq_true_eq]
      rw [List.mem_take_iff_getElem]
      exact ⟨i, by omega, by rw [e]; simp [hj]⟩
    · intro h d hd hp
      obtain ⟨j, hj, rfl⟩ := List.mem_map.mp hd
      have hj := List.mem_range.mp hj
      simp only [dupAt, decide_eq_true_eq] at hp
      rw [List.mem_take_iff_getElem] at hp
      obtain ⟨i, hi, e⟩ := hp
      simp at hi e
      rw [List.getElem?_eq_getElem hj] at e
      exact h i j (by omega) hj (by omega) e
  cases hd : (((rangeD 0 L.length).filter (dupAt L)).map fun _ => D.int 1).isEmpty
  · symm
    rw [decide_eq_false_iff_not]
    intro h'
    rw [h.mpr h'] at hd
    cases hd
  · rw [decide_eq_true (h.mp hd)]
theorem rng1_nat {n : Nat} (h : n ≤ 1000) : rng1 [.int n] = some ⟨rangeD 0 n, []⟩ := by
  have e : -(2 ^ 62) ≤ (n : Int) ∧ (n : Int) < 2 ^ 62 := by
    constructor <;> omega
  unfold rng1
  simp only [e, and_self, if_true, Int.toNat_natCast]
theorem unlike_key {M : MS} {L : List Str} (hl : L.length ≤ 1000) : lcF [] (xName 1) (tBl (f2 cIn (f2 aIx (fVar 0) (fVar 1)) (fSl (fVar 0) fNone (fOpt (fVar 1))))) (fC (.int 1)) [some (.tup (L.map .str)), none] (rangeD 0 L.length) [] M = .ok (((rangeD 0 L.length).filter (dupAt L)).map fun _ => .int 1) M := by
  rw [lcF_pure (p := dupAt L) (h := fun _ => .int 1) gOk_nil (fun x hx => ?_) (by rw [rangeD, List.length_map, List.length_range, List.length_nil, sizeLine_eq]; omega)]
  · rfl
  · obtain ⟨i, hi, rfl⟩ := List.mem_map.mp hx
    have hi := List.mem_range.mp hi
    have e1 : aIx (.tup (L.map .str)) (.int (0 + (i : Nat))) M = some (.str L[i]) := by
      rw [Int.zero_add]
      exact aIx_tp rfl rfl (by rw [List.getElem?_map, List.getElem?_eq_getElem hi]; rfl)
    have e2 : aSl (.tup (L.map .str)) none (some (0 + (i : Nat))) M = some (.tup ((L.take i).map .str)) := by
      rw [Int.zero_add]
      show some (D.tup (cut (L.map .str) none (some (i : Int)))) = _
      rw [cut_map, cut_take (by omega)]
    refine ⟨_, rfl, ?_, fun _ => rfl⟩
    simp only [tBl, f2, fVar, fSl, fNone, fOpt]
    simp [e1, e2, cIn_strs, dupAt, hi, -Int.zero_add, -List.map_take]
    simp [hi]
theorem unlike_spec {M : MS} {L : List Str} (hl : L.length ≤ 1000) : F__law_are_unlike [.tup (L.map .str)] M = .ok (.bl (decide L.Nodup)) M := by
  have key := unlike_key (M := M) hl
  have hlen : bLen [.tup (L.map .str)] M = some (.int L.length) := by simp [bLen, lenD, seqOf]
  have hr : rng1 [.int L.length] = some ⟨rangeD 0 L.length, []⟩ := by
    exact rng1_nat hl
  have e : s__law_are_unlike [some (.tup (L.map .str)), none] M = .ret (.bl (decide L.Nodup)) M := by
    have e2 := aEq_nil (M := M) (plains_ones ((rangeD 0 L.length).filter (dupAt L)))
    rw [dup_empty] at e2
    have e3 : fRng rng1 (aCons (fN bLen (aCons (fVar 0) aNil)) aNil) [some (.tup (L.map .str)), none] M = .ok ⟨rangeD 0 L.length, []⟩ M := by
      have e4 : aCons (fN bLen (aCons (fVar 0) aNil)) aNil [some (.tup (L.map .str)), none] M = .ok [.int L.length] M := by
        simp [aCons, fN, aNil, fVar, hlen]
      unfold fRng
      rw [e4, bindR_ok, hr]
    have e5 : nLc [1] (fRng rng1 (aCons (fN bLen (aCons (fVar 0) aNil)) aNil)) (xName 1) (tBl (f2 cIn (f2 aIx (fVar 0) (fVar 1)) (fSl (fVar 0) fNone (fOpt (fVar 1))))) (fC (.int 1)) [some (.tup (L.map .str)), none] M = .ok (((rangeD 0 L.length).filter (dupAt L)).map fun _ => .int 1) M := by
      unfold nLc
      rw [e3, bindR_ok]
      exact key
    exact sRet_ok (f2_ok (fLst_ok e5) (fLst_ok rfl) e2)
  exact body1 (nl := 2) e retS
end Lk01
end
section
set_option Elab.async false
set_option linter.all false
set_option maxRecDepth 100000
set_option maxHeartbeats 4000000
set_option autoImplicit false
namespace Lk01
open PySem PySem.Spec L2 NV
/-! ### the dict of the names -/
theorem putD_len {κ : Type} [DecidableEq κ] (kvs : List (κ × D)) (k : κ) (v : D) : (putD kvs k v).length = if k ∈ kvs.map (·.1) then kvs.length else kvs.length + 1 := by
  unfold putD
  by_cases h : (kvs.any fun kv => decide (kv.1 = k)) = true
  · have h' : k ∈ kvs.map (·.1) := by
      obtain ⟨kv, hk, e⟩ := List.any_eq_true.mp h
      exact List.mem_map.mpr ⟨kv, hk, of_decide_eq_true e⟩
    rw [if_pos h, if_pos h', List.length_map]
  · have h' : ¬ k ∈ kvs.map (·.1) := fun q => by
      obtain ⟨kv, hk, e⟩ := List.mem_map.mp q
      exact h (List.any_eq_true.mpr ⟨kv, hk, decide_eq_true e⟩)
    rw [if_neg h, if_neg h', List.length_append]
    rfl
theorem putD_mem {κ : Type} [DecidableEq κ] (kvs : List (κ × D)) (k j : κ) (v : D) : j ∈ (putD kvs k v).map (·.1) ↔ j = k ∨ j ∈ kvs.map (·.1) := by
  unfold putD
  by_cases h : (kvs.any fun kv => decide (kv.1 = k)) = true
  · have h' : k ∈ kvs.map (·.1) := by
      obtain ⟨kv, hk, e⟩ := List.any_eq_true.mp h
      exact List.mem_map.mpr ⟨kv, hk, of_decide_eq_true e⟩
    rw [if_pos h]
    have e : (kvs.map fun kv => if kv.1 = k then (kv.1, v) else kv).map (·.1) = kvs.map (·.1) := by
      rw [List.map_map]
      apply List.map_congr_left
      intro kv _
      show (if kv.1 = k then (kv.1, v) else kv).1 = kv.1
      split <;> rfl
    rw [e]
    constructor
    · exact .inr
    · rintro (rfl | q)
      · exact h'
      · exact q
  · rw [if_neg h, List.map_append, List.mem_append]
    simp [or_comm]
/-- how many names a dict comp counts -/
theorem dc_names {M : MS} {t : Gx} {c : Fx Bool} {k e : Fx D} {η0 : Nv} (h : ∀ s : Str, ∃ η1, t (.str s) η0 M = .nx η1 M ∧ c η1 M = .ok true M ∧ k η1 M = .ok (.str s) M ∧ e η1 M = .ok (.bl true) M) :
    ∀ (L : List Str) (acc : List (Key × D)), acc.length + L.length ≤ 1000 → ∃ acc', dcF [] t c k e η0 (L.map .str) acc M = .ok (.dcK acc') M ∧ acc'.length ≤ acc.length + L.length ∧ (acc'.length = acc.length + L.length ↔ L.Nodup ∧ ∀ s ∈ L, (Sum.inr s : Key) ∉ acc.map (·.1))
  | [], acc, _ => ⟨acc, by unfold dcF; simp, by simp, by simp⟩
  | s :: L, acc, hl => by
    obtain ⟨η1, h1, h2, h3, h4⟩ := h s
    have hlen := putD_len acc (.inr s) (.bl true)
    have hl' : acc.length + (L.length + 1) ≤ 1000 := hl
    obtain ⟨acc', e1, e2, e3⟩ := dc_names h L (putD acc (.inr s) (.bl true)) (by rw [hlen]; split <;> omega)
    refine ⟨acc', ?_, ?_, ?_⟩
    · show dcF [] t c k e η0 (.str s :: L.map .str) acc M = _
      unfold dcF
      rw [gIfR_nil, h1, thenF_nx, h2, bindF_ok, if_pos rfl, h3, bindF_ok, h4, bindF_ok]
      show (if acc.length < sizeLine then _ else _) = _
      rw [if_pos (by rw [sizeLine_eq]; omega)]
      exact e1
    · rw [hlen] at e2
      show acc'.length ≤ acc.length + (L.length + 1)
      split at e2 <;> omega
    · show acc'.length = acc.length + (L.length + 1) ↔ _
      rw [hlen] at e2 e3
      by_cases hs : (Sum.inr s : Key) ∈ acc.map (·.1)
      · rw [if_pos hs] at e2 e3
        constructor
        · intro q; omega
        · intro ⟨_, q⟩
          exact absurd hs (q s List.mem_cons_self)
      · rw [if_neg hs] at e2 e3
        have e4 : acc.length + 1 + L.length = acc.length + (L.length + 1) := by omega
        rw [e4] at e3
        rw [e3, List.nodup_cons]
        constructor
        · rintro ⟨q1, q2⟩
          refine ⟨⟨fun q => q2 s q ((putD_mem acc _ _ _).mpr (.inl rfl)), q1⟩, fun r hr => ?_⟩
          rcases List.mem_cons.mp hr with rfl | hr
          · exact hs
          · exact fun q => q2 r hr ((putD_mem acc _ _ _).mpr (.inr q))
        · rintro ⟨⟨q1, q2⟩, q3⟩
          refine ⟨q2, fun r hr q => ?_⟩
          rcases (putD_mem acc _ _ _).mp q with q | q
          · cases q
            exact q1 hr
          · exact q3 r (List.mem_cons_of_mem _ hr) q
/-! ### are_names -/
def good (xs : List D) : Bool := xs.all nm && decide (xs.map strD).Nodup
def tupQ (d : D) : Bool := (tpOf d).isSome
theorem tup_isi {M : MS} {d : D} (p : d.plain = true) : bIsi [d, .ty "tuple"] M = some (.bl (tupQ d)) := by
  cases d <;> first | exact absurd p Bool.false_ne_true | rfl | (simp [bIsi, tyD, isB, isC, tupQ, tpOf])
theorem all_names {xs : List D} (h : xs.all nm = true) : xs = (xs.map strD).map .str := by
  induction xs with
  | nil => rfl
  | cons x xs ih =>
    rw [List.all_cons, Bool.and_eq_true] at h
    rw [List.map_cons, List.map_cons, ← ih h.2]
    cases x <;> first | (exact absurd h.1 Bool.false_ne_true) | rfl
theorem names_comp {M : MS} {f : Fx D} {xs : List D} {η : Nv} {i : Nat} (hp : plains xs = true) (hl : xs.length ≤ 1000) (hf : ∀ x, x.plain = true → f (η.set i (some x)) M = .ok (.bl (nm x)) M) : lcF [] (xName i) fYes f η xs [] M = .ok ((xs.map nm).map .bl) M := by
  rw [lcF_pure (p := fun _ => true) (h := fun d => .bl (nm d)) gOk_nil (fun x hx => ?_) (by rw [List.length_nil, sizeLine_eq]; omega)]
  · rw [List.filter_eq_self.mpr (fun _ _ => rfl), List.map_map]
    rfl
  · exact ⟨_, rfl, rfl, fun _ => hf x (plains_iff.mp hp x hx)⟩
theorem all_bls {M : MS} {bs : List Bool} : bAll [.lst (bs.map .bl)] M = some (.bl (bs.all id)) := by
  show (blsOf (bs.map .bl)).map (fun bs => D.bl (bs.all id)) = _
  rw [bls_map]
  rfl
def wellD (d : D) (lo hi : Int) : Bool := match tpOf d with
  | some xs => decide (lo ≤ xs.length) && decide (xs.length ≤ hi) && good xs
  | none => false
theorem are_names_spec {M : MS} {xs : List D} {lo hi : Int} (p : plains xs = true) (hl : xs.length ≤ 1000) : F_are_names [.tup xs, .int lo, .int hi] M = .ok (.bl (decide (lo ≤ xs.length) && decide (xs.length ≤ hi) && good xs)) M := by
  have hs : bIsi [.tup xs, .ty "tuple"] M = some (.bl true) := by simp [bIsi, tyD, isB, isC]
  have hlen : bLen [.tup xs] M = some (.int xs.length) := rfl
  refine body3 (nl := 4) (M' := M) ?_ retS
  show s_are_names [some (.tup xs), some (.int lo), some (.int hi), none] M = _
  have src : srcOf M (.tup xs) = some ⟨xs, []⟩ := rfl
  have key := names_comp (M := M) (f := fCall 1 F_is_name (aCons (fVar 3) aNil)) (η := [some (.tup xs), some (.int lo), some (.int hi), none]) (i := 3) p hl (fun x hx => by simp [fCall, aCons, fVar, aNil, is_name_spec hx])
  have ck : bAll [.lst ((xs.map nm).map .bl)] M = some (.bl (xs.all nm)) := by
    rw [all_bls, List.all_map]; rfl
  have c0 : (tBl (fChain cLe cLe (fVar 1) (fN bLen (aCons (fVar 0) aNil)) (fVar 2))) [some (.tup xs), some (.int lo), some (.int hi), none] M = .ok (decide (lo ≤ xs.length) && decide (xs.length ≤ hi)) M := by
    by_cases h1 : lo ≤ xs.length
    · by_cases h2 : (xs.length : Int) ≤ hi <;> simp [sSeq, sIf, sSet, sRet, sExpr, sPass, tBl, tAndF, tOrF, tNotF, fTru, tru, f2, f1, fN, fVar, fC, fCall, aCons, aNil, fAnd, fOr, fNot, fIf, fChain, fLst, nLst, fTup, hlen, h1, h2]
    · simp [sSeq, sIf, sSet, sRet, sExpr, sPass, tBl, tAndF, tOrF, tNotF, fTru, tru, f2, f1, fN, fVar, fC, fCall, aCons, aNil, fAnd, fOr, fNot, fIf, fChain, fLst, nLst, fTup, hlen, h1]
  have c1 : (fTru (fN bAll (aCons (fLst (nLc [3] (fSrc (fVar 0)) (xName 3) fYes (fCall 1 F_is_name (aCons (fVar 3) aNil)))) aNil))) [some (.tup xs), some (.int lo), some (.int hi), none] M = .ok (xs.all nm) M := by
    simp [fTru, tru, fN, aCons, aNil, fLst, nLc, fSrc, fVar, src, wipeN, key, ck, -List.map_map]
  have hif : (tOrF (tNotF (fTru (fN bIsi (aCons (fVar 0) (aCons (fC (.ty "tuple")) aNil))))) (tOrF (tNotF (tBl (fChain cLe cLe (fVar 1) (fN bLen (aCons (fVar 0) aNil)) (fVar 2)))) (tNotF (fTru (fN bAll (aCons (fLst (nLc [3] (fSrc (fVar 0)) (xName 3) fYes (fCall 1 F_is_name (aCons (fVar 3) aNil)))) aNil)))))) [some (.tup xs), some (.int lo), some (.int hi), none] M = .ok (!(decide (lo ≤ xs.length) && decide (xs.length ≤ hi) && xs.all nm)) M := by
    have c2 : (fTru (fN bIsi (aCons (fVar 0) (aCons (fC (.ty "tuple")) aNil)))) [some (.tup xs), some (.int lo), some (.int hi), none] M = .ok true M := by
      simp [fTru, tru, fN, aCons, aNil, fVar, fC, hs]
    simp only [tOrF, tNotF, c2, c0, c1, bindR_ok]
    cases decide (lo ≤ xs.length) && decide (xs.length ≤ hi) <;> cases xs.all nm <;> simp
  cases hall : xs.all nm with
  | false =>
    rw [hall] at hif
    refine sSeq_ret (sIf_yes (M1 := M) (by rw [hif]; simp) (sRet_ok rfl)) ?_
    simp [good, hall]
  | true =>
    rw [hall] at hif
    cases hb : (decide (lo ≤ xs.length) && decide (xs.length ≤ hi)) with
    | false =>
      rw [hb] at hif
      refine sSeq_ret (sIf_yes (M1 := M) (by rw [hif]; simp) (sRet_ok rfl)) ?_
      simp
    | true =>
      rw [hb] at hif
      refine sSeq_nx (η' := _) (sIf_no (M1 := M) (by rw [hif]; simp) rfl) ?_
      have hx := all_names hall
      obtain ⟨acc, d1, d2, d3⟩ := dc_names (M := M) (t := xName 3) (c := fYes) (k := fVar 3) (e := fC (.bl true)) (η0 := [some (.tup xs), some (.int lo), some (.int hi), none]) (fun s => ⟨_, rfl, rfl, rfl, rfl⟩) (xs.map strD) [] (by simp; omega)
      rw [← hx] at d1
      have hdc : bLen [.dcK acc] M = some (.int acc.length) := rfl
      have hd : decide ((acc.length : Int) = xs.length) = decide (xs.map strD).Nodup := by
        simp at d3
        have : ((acc.length : Int) = xs.length) ↔ (xs.map strD).Nodup := by rw [← d3]; omega
        exact decide_eq_decide.mpr this
      have e1 : (oFrz (oDc [3] (fSrc (fVar 0)) (xName 3) fYes (fVar 3) (fC (.bl true)))) [some (.tup xs), some (.int lo), some (.int hi), none] M = .ok (.dcK acc) M := by
        simp [oFrz, oDc, fSrc, fVar, src, wipeN, d1, frzO]
      refine sRet_ok (f2_ok (fN_ok (aCons_ok e1 rfl) hdc) (fN_ok (aCons_ok rfl rfl) hlen) ?_)
      rw [aEq_int, hd, Bool.true_and, good, hall, Bool.true_and]
end Lk01
end
section
set_option Elab.async false
set_option linter.all false
set_option maxRecDepth 100000
set_option maxHeartbeats 4000000
set_option autoImplicit false
namespace Lk01
open PySem PySem.Spec L2 NV
/-! ### big steps -/
section
variable {η η' : Nv} {M M1 M2 M3 : MS} {f h fx fy fz : Fx D} {n : Fx (List D)} {φ ψ : D → D → MS → Option D} {x y z : D} {xs : List D} {a b : Sx} {r : SRes} {i : Nat} {bb cc : Bool} {c : Fx Bool}
theorem fAnd_f (e : f η M = .ok (.bl false) M1) : fAnd f h η M = .ok (.bl false) M1 := by unfold fAnd; rw [e]; rfl
theorem fAnd_t (e : f η M = .ok (.bl true) M1) : fAnd f h η M = h η M1 := by unfold fAnd; rw [e]; rfl
theorem fOr_f (e : f η M = .ok (.bl false) M1) : fOr f h η M = h η M1 := by unfold fOr; rw [e]; rfl
theorem fOr_t (e : f η M = .ok (.bl true) M1) : fOr f h η M = .ok (.bl true) M1 := by unfold fOr; rw [e]; rfl
theorem fAnd_bl (e : f η M = .ok (.bl bb) M) (e' : bb = true → h η M = .ok (.bl cc) M) : fAnd f h η M = .ok (.bl (bb && cc)) M := by
  cases bb with
  | false => exact fAnd_f e
  | true => rw [fAnd_t e, e' rfl]; rfl
theorem fOr_bl (e : f η M = .ok (.bl bb) M) (e' : bb = false → h η M = .ok (.bl cc) M) : fOr f h η M = .ok (.bl (bb || cc)) M := by
  cases bb with
  | true => exact fOr_t e
  | false => rw [fOr_f e, e' rfl]; rfl
theorem fChain_bl (ex : fx η M = .ok x M) (ey : fy η M = .ok y M) (ez : fz η M = .ok z M) (e1 : φ x y M = some (.bl bb)) (e2 : bb = true → ψ y z M = some (.bl cc)) : fChain φ ψ fx fy fz η M = .ok (.bl (bb && cc)) M := by
  unfold fChain
  rw [ex, bindR_ok, ey, bindR_ok, e1]
  cases bb with
  | false => rfl
  | true =>
    show bindR (fz η M) _ = _
    rw [ez, bindR_ok, e2 rfl]
    rfl
theorem fCall_ok {F : List D → MS → Res D} {np : Nat} {d : D} (e : n η M = .ok xs M1) (hl : xs.length = np) (h : F xs M1 = .ok d M2) : fCall np F n η M = .ok d M2 := by
  unfold fCall
  rw [e, bindR_ok, if_pos hl, h]
theorem fTru_bl (e : f η M = .ok (.bl bb) M1) : fTru f η M = .ok bb M1 := by unfold fTru; rw [e]; rfl
theorem tBl_bl (e : f η M = .ok (.bl bb) M1) : tBl f η M = .ok bb M1 := by unfold tBl; rw [e]; rfl
theorem tNot_ok (e : c η M = .ok bb M1) : tNotF c η M = .ok (!bb) M1 := by unfold tNotF; rw [e]; rfl
theorem fVar_ok (e : η[i]? = some (some x)) : fVar i η M = .ok x M := by unfold fVar; rw [e]
theorem nLst_ok (e : n η M = .ok xs M1) (h : xs.length ≤ 1000) : nLst n η M = .ok xs M1 := by
  unfold nLst
  rw [e, bindR_ok, if_pos (by rw [sizeLine_eq]; omega)]
theorem fTup_ok (e : n η M = .ok xs M1) (h : xs.length ≤ 1000) : fTup n η M = .ok (.tup xs) M1 := by
  unfold fTup
  rw [e, bindR_ok, if_pos (by rw [sizeLine_eq]; omega)]
theorem nN_ok {β : List D → MS → Option (List D)} {ys : List D} (e : n η M = .ok xs M1) (h : β xs M1 = some ys) : nN β n η M = .ok ys M1 := by
  unfold nN
  rw [e, bindR_ok, h]
  rfl
/-- a condition that the law asks of two sayings alike -/
theorem alike_no {b : Bool} (ex : fx η M = .ok (.bl b) M) (ey : fy η M = .ok (.bl b) M) : (tNotF (fTru (fCall 2 F__law_alike (aCons fx (aCons fy aNil))))) η M = .ok false M :=
  tNot_ok (bb := true) (fTru_bl (fCall_ok (aCons_ok ex (aCons_ok ey rfl)) rfl (alike_spec rfl (by rw [sizeLine_eq]; simp [D.nodes]))))
theorem orF_no {c c' : Fx Bool} (e : c η M = .ok false M) (e' : c' η M = .ok false M) : tOrF c c' η M = .ok false M := by
  unfold tOrF
  rw [e, bindR_ok]
  exact e'
theorem thenIf {c : Fx Bool} (e : c η M = .ok false M) : sIf c a sPass η M = .nx η M := sIf_no e rfl
/-- a for, an invariant kept -/
theorem loop_inv {P : Nv → MS → Prop} {t : Gx} {b : Sx} : ∀ {xs : List D} {η : Nv} {M : MS}, (∀ x ∈ xs, ∀ η M, P η M → ∃ η1 η', t x η M = .nx η1 M ∧ ∃ M', b η1 M = .nx η' M' ∧ P η' M') → P η M → ∃ η' M', loopF [] t b xs η M = .nx η' M' ∧ P η' M'
  | [], η, M, _, p => ⟨η, M, by unfold loopF; simp, p⟩
  | x :: xs, η, M, h, p => by
    obtain ⟨η1, η', e1, M', e2, p'⟩ := h x List.mem_cons_self η M p
    obtain ⟨η2, M2, e3, p2⟩ := loop_inv (fun y hy => h y (List.mem_cons_of_mem _ hy)) p'
    refine ⟨η2, M2, ?_, p2⟩
    unfold loopF
    rw [gIf_nil, e1, thenG_nx, e2, turnS_nx, e3]
/-- a comp that draws -/
theorem lc_draw {P : D → Prop} {k : Nat} {t : Gx} {f : Fx D} {η0 : Nv} (h : ∀ x M, Bag k M → ∃ η1 d M', t x η0 M = .nx η1 M ∧ f η1 M = .ok d M' ∧ P d ∧ Bag k M' ∧ Else k M M') : ∀ (xs acc : List D) (M : MS), Bag k M → acc.length + xs.length ≤ 1000 → ∃ ds M', lcF [] t fYes f η0 xs acc M = .ok (acc ++ ds) M' ∧ ds.length = xs.length ∧ (∀ d ∈ ds, P d) ∧ Bag k M' ∧ Else k M M'
  | [], acc, M, hb, _ => by
    refine ⟨[], M, ?_, rfl, ?_, hb, Else.refl k M⟩
    · unfold lcF
      simp
    · intro d hd
      cases hd
  | x :: xs, acc, M, hb, hl => by
    obtain ⟨η1, d, M1, e1, e2, pd, b1, l1⟩ := h x M hb
    have hl' : acc.length + (xs.length + 1) ≤ 1000 := hl
    obtain ⟨ds, M2, e3, hlen, hp, b2, l2⟩ := lc_draw h xs (acc ++ [d]) M1 b1 (by simp; omega)
    refine ⟨d :: ds, M2, ?_, by simp [hlen], fun q hq => ?_, b2, l1.trans l2⟩
    · unfold lcF
      rw [gIfR_nil, e1, thenF_nx]
      show bindF (Res.ok true M) _ = _
      rw [bindF_ok, if_pos rfl, e2, bindF_ok, if_pos (by rw [sizeLine_eq]; omega), e3]
      simp
    · rcases List.mem_cons.mp hq with rfl | hq
      · exact pd
      · exact hp q hq
end
/-! ### is_within -/
def inW (d : D) (lo hi : Int) : Bool := match d with
  | .int i => decide (lo ≤ i) && decide (i ≤ hi)
  | _ => false
theorem within_expr {F : List D → MS → Res D} {M : MS} {η : Nv} {d : D} {lo hi : Int} {i j k : Nat} (hF : F [d] M = .ok (.bl (isInt d)) M) (h1 : η[i]? = some (some d)) (h2 : η[j]? = some (some (.int lo))) (h3 : η[k]? = some (some (.int hi))) : fAnd (fCall 1 F (aCons (fVar i) aNil)) (fChain cLe cLe (fVar j) (fVar i) (fVar k)) η M = .ok (.bl (inW d lo hi)) M := by
  have e := fCall_ok (F := F) (np := 1) (n := aCons (fVar i) aNil) (η := η) (M := M) (aCons_ok (fVar_ok h1) rfl) rfl hF
  cases d with
  | int n =>
    rw [fAnd_t e]
    exact fChain_bl (fVar_ok h2) (fVar_ok h1) (fVar_ok h3) rfl (fun _ => rfl)
  | _ => exact fAnd_f e
theorem within_spec {M : MS} {d : D} {lo hi : Int} (p : d.plain = true) : F_is_within [d, .int lo, .int hi] M = .ok (.bl (inW d lo hi)) M :=
  body3 (nl := 3) (sRet_ok (within_expr (int_spec p).1 rfl rfl rfl)) retS
/-! ### what is no tuple -/
theorem are_names_no {M : MS} {d : D} {lo hi : D} (p : d.plain = true) (h : tupQ d = false) : F_are_names [d, lo, hi] M = .ok (.bl false) M := by
  refine body3 (nl := 4) (M' := M) (sSeq_ret (sIf_yes (M1 := M) ?_ (sRet_ok rfl)) rfl) retS
  have c2 : (fTru (fN bIsi (aCons (fVar 0) (aCons (fC (.ty "tuple")) aNil)))) [some d, some lo, some hi, none] M = .ok false M := by
    refine fTru_bl (fN_ok (aCons_ok (fVar_ok rfl) (aCons_ok rfl rfl)) ?_)
    rw [tup_isi p, h]
  show tOrF _ _ [some d, some lo, some hi, none] M = _
  unfold tOrF
  rw [tNot_ok c2]
  rfl
/-! ### are_some_of and is_lot -/
theorem pigeon : ∀ (L N : List Str), L.Nodup → (∀ x ∈ L, x ∈ N) → L.length ≤ N.length
  | [], N, _, _ => Nat.zero_le _
  | x :: L, N, hn, h => by
    have hx := h x List.mem_cons_self
    rw [List.nodup_cons] at hn
    have ih := pigeon L (N.erase x) hn.2 fun y hy => (List.mem_erase_of_ne (a := y) (b := x) (fun e => hn.1 (e ▸ hy))).mpr (h y (List.mem_cons_of_mem _ hy))
    rw [List.length_erase_of_mem hx] at ih
    have := List.length_pos_of_mem hx
    show L.length + 1 ≤ N.length
    omega
def inN (N : List Str) : D → Bool
  | .str s => decide (s ∈ N)
  | _ => false
theorem cIn_N {M : MS} {N : List Str} {d : D} (p : d.plain = true) : hasIn d (.tup (N.map .str)) M = some (inN N d) := by
  have h1 := plains_strs N
  have key : ∀ d : D, (∀ s, d ≠ .str s) → d.plain = true → hasIn d (.tup (N.map .str)) M = some false := by
    intro d hs p
    have hd : PyData.depthAll (N.map .str) ≤ 64 := by
      clear h1
      induction N with
      | nil => simp [PyData.depthAll]
      | cons x N ih => simp [PyData.depthAll, PyData.depth]; exact ih
    have e : ((N.map PyData.str).any fun b => PyData.eqv b d.p) = false := by
      rw [List.any_eq_false]
      intro x hx
      obtain ⟨s, _, rfl⟩ := List.mem_map.mp hx
      cases d <;> first | (exact absurd rfl (hs _)) | exact absurd p Bool.false_ne_true | simp [PyData.eqv]
    simp only [hasIn, getD, dkOf, dtOf, pD_plain p, pD_tup, if_pos h1, ps_strs, e]
    rw [if_pos (by omega)]
  cases d with
  | str s => exact hasIn_strs
  | _ => exact key _ (fun s e => by cases e) p
def someOf (N : List Str) (xs : List D) : Bool := xs.all (inN N) && decide (xs.map strD).Nodup
theorem good_some {N : List Str} {xs : List D} (hN : ∀ s ∈ N, nmS s = true) : ((decide ((1 : Int) ≤ xs.length) && decide ((xs.length : Int) ≤ N.length) && good xs) && xs.all (inN N)) = (someOf N xs && !xs.isEmpty) := by
  cases h : xs.all (inN N) with
  | false => simp [someOf, h]
  | true =>
    have hall : xs.all nm = true := List.all_eq_true.mpr fun x hx => by
      have := List.all_eq_true.mp h x hx
      cases x <;> first | (exact absurd this Bool.false_ne_true) | exact hN _ (of_decide_eq_true this)
    cases hd : decide (xs.map strD).Nodup with
    | false => simp [someOf, good, hd]
    | true =>
      have hle : xs.length ≤ N.length := by
        have := pigeon (xs.map strD) N (of_decide_eq_true hd) fun s hs => by
          obtain ⟨x, hx, rfl⟩ := List.mem_map.mp hs
          have := List.all_eq_true.mp h x hx
          cases x <;> first | (exact absurd this Bool.false_ne_true) | exact of_decide_eq_true this
        rwa [List.length_map] at this
      cases xs with
      | nil => simp
      | cons x xs =>
        have h1 : decide ((1 : Int) ≤ ((x :: xs).length : Nat)) = true := decide_eq_true (by simp; omega)
        have h2 : decide (((x :: xs).length : Int) ≤ N.length) = true := decide_eq_true (by omega)
        rw [h1, h2, good, someOf, h, hall, hd]
        rfl
theorem some_of_spec {M : MS} {N : List Str} {xs : List D} (hN : ∀ s ∈ N, nmS s = true) (p : plains xs = true) (hl : xs.length ≤ 1000) : F_are_some_of [.tup xs, .tup (N.map .str)] M = .ok (.bl (someOf N xs && !xs.isEmpty)) M := by
  rw [← good_some hN]
  refine body2 (nl := 3) (M' := M) (sRet_ok ?_) retS
  show fAnd _ _ [some (.tup xs), some (.tup (N.map .str)), none] M = _
  have hlen : bLen [.tup (N.map .str)] M = some (.int N.length) := by simp [bLen, lenD, seqOf]
  refine fAnd_bl (fCall_ok (aCons_ok (fVar_ok rfl) (aCons_ok rfl (aCons_ok (fN_ok (aCons_ok (fVar_ok rfl) rfl) hlen) rfl))) rfl (are_names_spec p hl)) fun _ => ?_
  have src : srcOf M (.tup xs) = some ⟨xs, []⟩ := rfl
  have key : lcF [] (xName 2) fYes (f2 cIn (fVar 2) (fVar 1)) [some (.tup xs), some (.tup (N.map .str)), none] xs [] M = .ok ((xs.map (inN N)).map .bl) M := by
    rw [lcF_pure (p := fun _ => true) (h := fun d => .bl (inN N d)) gOk_nil (fun x hx => ?_) (by rw [List.length_nil, sizeLine_eq]; omega)]
    · rw [List.filter_eq_self.mpr (fun _ _ => rfl), List.map_map]
      rfl
    · refine ⟨_, rfl, rfl, fun _ => f2_ok (fVar_ok rfl) (fVar_ok rfl) ?_⟩
      unfold cIn aIn
      rw [cIn_N (plains_iff.mp p x hx)]
      rfl
  refine fN_ok (xs := [.lst ((xs.map (inN N)).map .bl)]) (M1 := M) (aCons_ok (fLst_ok ?_) rfl) ?_
  · unfold nLc
    have : (fSrc (fVar 0)) [some (.tup xs), some (.tup (N.map .str)), none] M = .ok ⟨xs, []⟩ M := by simp [fSrc, fVar, src]
    rw [this, bindR_ok]
    exact key
  · rw [all_bls, List.all_map]
    rfl
theorem some_of_no {M : MS} {N : List Str} {d : D} (p : d.plain = true) (h : tupQ d = false) : F_are_some_of [d, .tup (N.map .str)] M = .ok (.bl false) M := by
  refine body2 (nl := 3) (M' := M) (sRet_ok ?_) retS
  show fAnd _ _ [some d, some (.tup (N.map .str)), none] M = _
  have hlen : bLen [.tup (N.map .str)] M = some (.int N.length) := by simp [bLen, lenD, seqOf]
  exact fAnd_f (fCall_ok (aCons_ok (fVar_ok rfl) (aCons_ok rfl (aCons_ok (fN_ok (aCons_ok (fVar_ok rfl) rfl) hlen) rfl))) rfl (are_names_no p h))
/-- is a list of names sorted? -/
noncomputable def srt (xs : List D) : Bool := PyData.eqv (.list (ps xs)) (.list (ps (xs.mergeSort (PySem.W.dataLe false D.p))))
theorem sorted_strs {M : MS} (L : List Str) : bSorted [.tup (L.map .str)] M = some ((L.map D.str).mergeSort (PySem.W.dataLe false D.p)) := by
  simp only [bSorted, seqOf, lsOf_tup, tpOf_tup]
  have h : plains (L.map .str) = true ∧ PySem.W.AllAlike (ps (L.map .str)) ∧ PySem.W.Sortable (ps (L.map .str)) ∧ (∀ d ∈ ps (L.map .str), d.depth ≤ 60) := by
    rw [ps_strs]
    refine ⟨plains_strs L, ?_, ?_, ?_⟩
    · intro d hd d' hd'
      obtain ⟨s, _, rfl⟩ := List.mem_map.mp hd
      obtain ⟨s', _, rfl⟩ := List.mem_map.mp hd'
      rfl
    · refine .inr fun d hd => ?_
      obtain ⟨s, _, rfl⟩ := List.mem_map.mp hd
      exact ⟨PyData.noConfusion, fun xs => PyData.noConfusion⟩
    · intro d hd
      obtain ⟨s, _, rfl⟩ := List.mem_map.mp hd
      simp [PyData.depth]
  rw [if_pos h]
end Lk01
end
section
set_option Elab.async false
set_option linter.all false
set_option maxRecDepth 100000
set_option maxHeartbeats 4000000
set_option autoImplicit false
namespace Lk01
open PySem PySem.Spec L2 NV
theorem depth_strs (L : List Str) : PyData.depth (.list (L.map .str)) ≤ 64 := by
  have : PyData.depthAll (L.map .str) = 0 := by
    induction L with
    | nil => simp [PyData.depthAll]
    | cons x L ih => simp [PyData.depthAll, PyData.depth]; exact ih
  simp [PyData.depth, this]
theorem perm_strs {xs : List D} {L : List Str} (h : ∀ x ∈ xs, x ∈ L.map D.str) : ∃ L' : List Str, xs = L'.map .str := by
  induction xs with
  | nil => exact ⟨[], rfl⟩
  | cons x xs ih =>
    obtain ⟨L', e⟩ := ih fun y hy => h y (List.mem_cons_of_mem _ hy)
    obtain ⟨s, _, e'⟩ := List.mem_map.mp (h x List.mem_cons_self)
    exact ⟨s :: L', by rw [List.map_cons, ← e, ← e']⟩
theorem srt_expr {M : MS} {η : Nv} {j : Nat} {L : List Str} (h : η[j]? = some (some (.tup (L.map .str)))) : f2 aEq (fLst (nN bList (aCons (fVar j) aNil))) (fLst (nN bSorted (aCons (fVar j) aNil))) η M = .ok (.bl (srt (L.map .str))) M := by
  refine f2_ok (fLst_ok (nN_ok (aCons_ok (fVar_ok h) rfl) rfl)) (fLst_ok (nN_ok (aCons_ok (fVar_ok h) rfl) (sorted_strs L))) ?_
  obtain ⟨L', e⟩ := perm_strs (xs := (L.map D.str).mergeSort (PySem.W.dataLe false D.p)) (L := L) fun x hx => (List.mergeSort_perm _ _).mem_iff.mp hx
  unfold srt
  rw [e]
  have h1 := plains_strs L
  have h2 := plains_strs L'
  simp only [aEq, pD_lst, if_pos h1, if_pos h2, ps_strs]
  have := depth_strs L
  rw [if_pos (by omega)]
def nilQ : D → Bool
  | .tup xs => xs.isEmpty
  | .frt xs => xs.isEmpty
  | _ => false
theorem eq_nil {M : MS} {d : D} (p : d.plain = true) : aEq d (.tup []) M = some (.bl (nilQ d)) ∧ aNe d (.tup []) M = some (.bl (!nilQ d)) := by
  have h0 : PyData.depth (.tuple []) ≤ 64 := by decide
  have h : pD M d = some d.p := pD_plain p
  have h1 : pD M (.tup []) = some (.tuple []) := rfl
  have e : PyData.eqv d.p (.tuple []) = nilQ d := by
    cases d with
    | tup xs => cases xs <;> simp [nilQ, PyData.eqv, PyData.eqvAll]
    | frt xs => cases xs <;> simp [nilQ, PyData.eqv, PyData.eqvAll]
    | ty _ => exact absurd p Bool.false_ne_true
    | ref _ => exact absurd p Bool.false_ne_true
    | dcK _ => exact absurd p Bool.false_ne_true
    | dcT _ => exact absurd p Bool.false_ne_true
    | _ => simp [nilQ, PyData.eqv]
  simp only [aEq, aNe, h, h1]
  rw [if_pos (by omega), if_pos (by omega), e]
  exact ⟨rfl, rfl⟩
theorem some_names {N : List Str} {xs : List D} (h : xs.all (inN N) = true) : xs = (xs.map strD).map .str := by
  induction xs with
  | nil => rfl
  | cons x xs ih =>
    rw [List.all_cons, Bool.and_eq_true] at h
    rw [List.map_cons, List.map_cons, ← ih h.2]
    cases x <;> first | (exact absurd h.1 Bool.false_ne_true) | rfl
theorem some_and {N : List Str} {xs : List D} (h : someOf N xs = true) : xs.all (inN N) = true := by
  unfold someOf at h
  rw [Bool.and_eq_true] at h
  exact h.1
theorem lot_eq {N : List Str} {xs : List D} : (xs.isEmpty || ((someOf N xs && !xs.isEmpty) && srt xs)) = (someOf N xs && srt xs) := by
  cases xs with
  | nil => simp [someOf, srt, PyData.eqv, PyData.eqvAll]
  | cons x xs => simp
theorem lot_spec {M : MS} {N : List Str} {xs : List D} (hN : ∀ s ∈ N, nmS s = true) (p : plains xs = true) (hl : xs.length ≤ 1000) : F_is_lot [.tup xs, .tup (N.map .str)] M = .ok (.bl (someOf N xs && srt xs)) M := by
  rw [← lot_eq]
  refine body2 (nl := 2) (M' := M) (sRet_ok ?_) retS
  refine fOr_bl (f2_ok (fVar_ok rfl) (fTup_ok rfl (Nat.zero_le _)) (eq_nil (d := .tup xs) p).1) fun _ => ?_
  refine fAnd_bl (fCall_ok (aCons_ok (fVar_ok rfl) (aCons_ok (fVar_ok rfl) rfl)) rfl (some_of_spec hN p hl)) fun h => ?_
  rw [Bool.and_eq_true] at h
  have e := some_names (some_and h.1)
  rw [e]
  exact srt_expr rfl
theorem lot_no {M : MS} {N : List Str} {d : D} (p : d.plain = true) (h : tupQ d = false) : F_is_lot [d, .tup (N.map .str)] M = .ok (.bl false) M := by
  have hn : nilQ d = false := by
    cases d <;> first | rfl | cases h
  have e := (eq_nil (M := M) p).1
  rw [hn] at e
  refine body2 (nl := 2) (M' := M) (sRet_ok ?_) retS
  show fOr _ _ _ M = _
  rw [fOr_f (f2_ok (fVar_ok rfl) (fTup_ok rfl (Nat.zero_le _)) e)]
  exact fAnd_f (fCall_ok (aCons_ok (fVar_ok rfl) (aCons_ok (fVar_ok rfl) rfl)) rfl (some_of_no p h))
/-! ### the law's sayings -/
theorem wipe_at {η : Nv} {i : Nat} {x : D} (h : i < η.length) : ((η.set i none).set i (some x))[i]? = some (some x) := List.getElem?_set_self (by rw [List.length_set]; exact h)
theorem comp_names {M : MS} {η : Nv} {xs : List D} {i j : Nat} (hj : η[j]? = some (some (.tup xs))) (hi : i < η.length) (p : plains xs = true) (hl : xs.length ≤ 1000) :
    f2 aEq (fLst (nLc [i] (fSrc (fVar j)) (xName i) (tNotF (fTru (fCall 1 F__law_is_name (aCons (fVar i) aNil)))) (fC (.int 1)))) (fLst (nLst aNil)) η M = .ok (.bl (xs.all nm)) M := by
  have key : lcF [] (xName i) (tNotF (fTru (fCall 1 F__law_is_name (aCons (fVar i) aNil)))) (fC (.int 1)) (η.set i none) xs [] M = .ok ((xs.filter fun x => !nm x).map fun _ => .int 1) M := by
    rw [lcF_pure (p := fun x => !nm x) (h := fun _ => .int 1) gOk_nil (fun x hx => ?_) (by rw [List.length_nil, sizeLine_eq]; omega)]
    · rfl
    · exact ⟨_, rfl, tNot_ok (fTru_bl (fCall_ok (aCons_ok (fVar_ok (wipe_at hi)) rfl) rfl (law_is_name_spec (plains_iff.mp p x hx)))), fun _ => rfl⟩
  have e : aEq (.lst ((xs.filter fun x => !nm x).map fun _ => .int 1)) (.lst []) M = some (.bl (xs.all nm)) := by rw [aEq_nil (plains_ones _), filt_empty]
  refine f2_ok (fLst_ok (xs := ((xs.filter fun x => !nm x).map fun _ => .int 1)) (M1 := M) ?_) (fLst_ok rfl) e
  have : (fSrc (fVar j)) η M = .ok ⟨xs, []⟩ M := by unfold fSrc; rw [fVar_ok hj]; rfl
  unfold nLc
  rw [this, bindR_ok]
  exact key
theorem comp_in {M : MS} {η : Nv} {xs : List D} {N : List Str} {i j k : Nat} (hj : η[j]? = some (some (.tup xs))) (hk : η[k]? = some (some (.tup (N.map .str)))) (hik : i ≠ k) (hi : i < η.length) (p : plains xs = true) (hl : xs.length ≤ 1000) :
    f2 aEq (fLst (nLc [i] (fSrc (fVar j)) (xName i) (tBl (f2 cNotIn (fVar i) (fVar k))) (fC (.int 1)))) (fLst (nLst aNil)) η M = .ok (.bl (xs.all (inN N))) M := by
  have key : lcF [] (xName i) (tBl (f2 cNotIn (fVar i) (fVar k))) (fC (.int 1)) (η.set i none) xs [] M = .ok ((xs.filter fun x => !inN N x).map fun _ => .int 1) M := by
    rw [lcF_pure (p := fun x => !inN N x) (h := fun _ => .int 1) gOk_nil (fun x hx => ?_) (by rw [List.length_nil, sizeLine_eq]; omega)]
    · rfl
    · refine ⟨_, rfl, tBl_bl (f2_ok (fVar_ok (wipe_at hi)) (fVar_ok (by rw [List.getElem?_set_ne hik, List.getElem?_set_ne hik]; exact hk)) ?_), fun _ => rfl⟩
      unfold cNotIn aIn
      rw [cIn_N (plains_iff.mp p x hx)]
      rfl
  have e : aEq (.lst ((xs.filter fun x => !inN N x).map fun _ => .int 1)) (.lst []) M = some (.bl (xs.all (inN N))) := by rw [aEq_nil (plains_ones _), filt_empty]
  refine f2_ok (fLst_ok (xs := ((xs.filter fun x => !inN N x).map fun _ => .int 1)) (M1 := M) ?_) (fLst_ok rfl) e
  have : (fSrc (fVar j)) η M = .ok ⟨xs, []⟩ M := by unfold fSrc; rw [fVar_ok hj]; rfl
  unfold nLc
  rw [this, bindR_ok]
  exact key
theorem unlike_expr {M : MS} {η : Nv} {xs : List D} {j : Nat} (hj : η[j]? = some (some (.tup xs))) (h : xs = (xs.map strD).map .str) (hl : xs.length ≤ 1000) : fCall 1 F__law_are_unlike (aCons (fVar j) aNil) η M = .ok (.bl (decide (xs.map strD).Nodup)) M := by
  refine fCall_ok (aCons_ok (fVar_ok hj) rfl) rfl ?_
  rw [h]
  have : ((xs.map strD).map D.str).map strD = xs.map strD := by rw [← h]
  rw [this]
  exact unlike_spec (by rw [List.length_map]; exact hl)
/-- what the law hands in -/
def Th (d : D) : Prop := d.plain = true ∧ ((∃ xs, d = .tup xs ∧ xs.length ≤ 1000) ∨ tupQ d = false)
noncomputable def b1 : Sx := (sSeq (sSet 10 (fAnd (fN bIsi (aCons (fVar 9) (aCons (fC (.ty "tuple")) aNil))) (f2 aEq (fLst (nLc [16] (fSrc (fVar 9)) (xName 16) (tNotF (fTru (fCall 1 F__law_is_name (aCons (fVar 16) aNil)))) (fC (.int 1)))) (fLst (nLst aNil)))))
  (sSeq (sSet 10 (fAnd (fVar 10) (fAnd (fCall 1 F__law_are_unlike (aCons (fVar 9) aNil)) (fChain cLe cLe (fVar 5) (fN bLen (aCons (fVar 9) aNil)) (fVar 6)))))
  (sIf (tNotF (fTru (fCall 2 F__law_alike (aCons (fCall 3 F_are_names (aCons (fVar 9) (aCons (fVar 5) (aCons (fVar 6) aNil)))) (aCons (fVar 10) aNil))))) (sRet (fC (.bl false))) sPass)))
noncomputable def b2 : Sx := (sSeq (sSet 13 (fAnd (fN bIsi (aCons (fVar 9) (aCons (fC (.ty "tuple")) aNil))) (f2 aEq (fLst (nLc [16] (fSrc (fVar 9)) (xName 16) (tBl (f2 cNotIn (fVar 16) (fVar 11))) (fC (.int 1)))) (fLst (nLst aNil)))))
  (sSeq (sSet 14 (fAnd (fVar 13) (fCall 1 F__law_are_unlike (aCons (fVar 9) aNil))))
  (sSeq (sIf (tNotF (fTru (fCall 2 F__law_alike (aCons (fCall 2 F_are_some_of (aCons (fVar 9) (aCons (fVar 11) aNil))) (aCons (fAnd (fVar 14) (f2 aNe (fVar 9) (fTup aNil))) aNil))))) (sRet (fC (.bl false))) sPass)
  (sIf (tNotF (fTru (fCall 2 F__law_alike (aCons (fCall 2 F_is_lot (aCons (fVar 9) (aCons (fVar 11) aNil))) (aCons (fAnd (fVar 14) (f2 aEq (fLst (nN bList (aCons (fVar 9) aNil))) (fLst (nN bSorted (aCons (fVar 9) aNil))))) aNil))))) (sRet (fC (.bl false))) sPass))))
variable {a0 a1 x2 x3 x4 x5 x6 x7 x8 x9 x10 x11 x12 x13 x14 x15 x16 : Option D} {M : MS}
theorem b1_ok {d : D} {lo hi : Int} (h : Th d) : ∃ y, b1 [a0, a1, x2, x3, x4, some (.int lo), some (.int hi), x7, x8, some d, x10, x11, x12, x13, x14, x15, x16] M = .nx [a0, a1, x2, x3, x4, some (.int lo), some (.int hi), x7, x8, some d, y, x11, x12, x13, x14, x15, x16] M := by
  obtain ⟨p, ⟨xs, rfl, hl⟩ | hq⟩ := h
  · have p' : plains xs = true := p
    refine ⟨_, sSeq_nx (sSet_ok (fAnd_bl (cc := xs.all nm) (fN_ok (aCons_ok (fVar_ok rfl) (aCons_ok rfl rfl)) (tup_isi p)) fun _ => comp_names (i := 16) (j := 9) rfl (Nat.lt_succ_self 16) p' hl)) (sSeq_nx (sSet_ok (fAnd_bl (cc := decide (xs.map strD).Nodup && (decide (lo ≤ xs.length) && decide (xs.length ≤ hi))) (fVar_ok rfl) fun hall => fAnd_bl (unlike_expr rfl (all_names hall) hl) fun _ => fChain_bl (fVar_ok rfl) (fN_ok (aCons_ok (fVar_ok rfl) rfl) rfl) (fVar_ok rfl) rfl fun _ => rfl)) (thenIf (alike_no (fCall_ok (aCons_ok (fVar_ok rfl) (aCons_ok (fVar_ok rfl) (aCons_ok (fVar_ok rfl) rfl))) rfl (are_names_spec p' hl)) (fVar_ok ?_))))⟩
    show some (some (D.bl _)) = _
    congr 3
    show ((true && xs.all nm) && (decide (xs.map strD).Nodup && (decide (lo ≤ xs.length) && decide (xs.length ≤ hi)))) = (decide (lo ≤ xs.length) && decide (xs.length ≤ hi) && (xs.all nm && decide (xs.map strD).Nodup))
    cases xs.all nm <;> cases decide (xs.map strD).Nodup <;> cases decide (lo ≤ xs.length) <;> cases decide ((xs.length : Int) ≤ hi) <;> rfl
  · have e := tup_isi (M := M) p
    rw [hq] at e
    exact ⟨_, sSeq_nx (sSet_ok (fAnd_f (fN_ok (aCons_ok (fVar_ok rfl) (aCons_ok rfl rfl)) e))) (sSeq_nx (sSet_ok (fAnd_f (fVar_ok rfl))) (thenIf (alike_no (fCall_ok (aCons_ok (fVar_ok rfl) (aCons_ok (fVar_ok rfl) (aCons_ok (fVar_ok rfl) rfl))) rfl (are_names_no p hq)) (fVar_ok rfl))))⟩
theorem b2_ok {d : D} {N : List Str} (hN : ∀ s ∈ N, nmS s = true) (h : Th d) : ∃ y z, b2 [a0, a1, x2, x3, x4, x5, x6, x7, x8, some d, x10, some (.tup (N.map .str)), x12, x13, x14, x15, x16] M = .nx [a0, a1, x2, x3, x4, x5, x6, x7, x8, some d, x10, some (.tup (N.map .str)), x12, y, z, x15, x16] M := by
  obtain ⟨p, ⟨xs, rfl, hl⟩ | hq⟩ := h
  · have p' : plains xs = true := p
    have e13 : (fAnd (fN bIsi (aCons (fVar 9) (aCons (fC (.ty "tuple")) aNil))) (f2 aEq (fLst (nLc [16] (fSrc (fVar 9)) (xName 16) (tBl (f2 cNotIn (fVar 16) (fVar 11))) (fC (.int 1)))) (fLst (nLst aNil)))) [a0, a1, x2, x3, x4, x5, x6, x7, x8, some (.tup xs), x10, some (.tup (N.map .str)), x12, x13, x14, x15, x16] M = .ok (.bl (xs.all (inN N))) M :=
      fAnd_bl (cc := xs.all (inN N)) (bb := true) (fN_ok (aCons_ok (fVar_ok rfl) (aCons_ok rfl rfl)) (tup_isi p)) fun _ => comp_in (i := 16) (j := 9) (k := 11) rfl rfl (by decide) (Nat.lt_succ_self 16) p' hl
    refine ⟨_, _, sSeq_nx (sSet_ok e13) (sSeq_nx (sSet_ok (x := .bl (someOf N xs)) (fAnd_bl (cc := decide (xs.map strD).Nodup) (fVar_ok rfl) fun hall => unlike_expr rfl (some_names hall) hl)) (sSeq_nx (thenIf (alike_no (fCall_ok (aCons_ok (fVar_ok rfl) (aCons_ok (fVar_ok rfl) rfl)) rfl (some_of_spec hN p' hl)) (fAnd_bl (cc := !xs.isEmpty) (fVar_ok rfl) fun _ => f2_ok (fVar_ok rfl) (fTup_ok rfl (Nat.zero_le _)) (eq_nil p).2))) (thenIf (alike_no (fCall_ok (aCons_ok (fVar_ok rfl) (aCons_ok (fVar_ok rfl) rfl)) rfl (lot_spec hN p' hl)) (fAnd_bl (cc := srt xs) (fVar_ok rfl) fun h => ?_)))))⟩
    have e := some_names (some_and h)
    rw [e]
    exact srt_expr rfl
  · have e := tup_isi (M := M) p
    rw [hq] at e
    exact ⟨_, _, sSeq_nx (sSet_ok (fAnd_f (fN_ok (aCons_ok (fVar_ok rfl) (aCons_ok rfl rfl)) e))) (sSeq_nx (sSet_ok (fAnd_f (fVar_ok rfl))) (sSeq_nx (thenIf (alike_no (fCall_ok (aCons_ok (fVar_ok rfl) (aCons_ok (fVar_ok rfl) rfl)) rfl (some_of_no p hq)) (fAnd_f (fVar_ok rfl)))) (thenIf (alike_no (fCall_ok (aCons_ok (fVar_ok rfl) (aCons_ok (fVar_ok rfl) rfl)) rfl (lot_no p hq)) (fAnd_f (fVar_ok rfl))))))⟩
end Lk01
end
section
set_option Elab.async false
set_option linter.all false
set_option maxRecDepth 100000
set_option maxHeartbeats 4000000
set_option autoImplicit false
namespace Lk01
open PySem PySem.Spec L2 NV
section
variable {η : Nv} {M M1 M2 : MS} {f fx fy : Fx D} {φ : D → MS → Option D} {x y z : D} {n : Fx (List D)} {i j : Nat}
theorem f1_ok (h : f η M = .ok x M1) (e : φ x M1 = some z) : f1 φ f η M = .ok z M1 := by unfold f1; rw [h, bindR_ok, e]; rfl
theorem sPar_ok (h : n η M = .ok [x, y] M1) : sPar i j n η M = .nx ((η.set i (some x)).set j (some y)) M1 := by unfold sPar; rw [h]; rfl
theorem some_call {xs : List D} {v : D} (hv : η[i]? = some (some (.ref 0))) (hb : Bag 0 M) (hf : f η M = .ok v M) (hx : v = .lst xs ∨ v = .tup xs) (p : plains xs = true) (h0 : 0 < xs.length) (hl : xs.length ≤ 1000) : ∃ d M', fCall 2 F__law_some (aCons (fVar i) (aCons f aNil)) η M = .ok d M' ∧ d ∈ xs ∧ Bag 0 M' ∧ Else 0 M M' := by
  obtain ⟨d, M', e, hd, b, l⟩ := some_spec (x := v) (xs := xs) hb (hx.imp (fun e M => by rw [e]; rfl) id) h0 (by omega) (fun k => plains_cl xs p)
  exact ⟨d, M', fCall_ok (aCons_ok (fVar_ok hv) (aCons_ok hf rfl)) rfl e, hd, b, l⟩
theorem take_call {m : Nat} (hv : η[i]? = some (some (.ref 0))) (hb : Bag 0 M) (h0 : 0 < m) (hm : m ≤ 1000) : ∃ (v : Nat) (M' : MS), fCall 2 F__law_take (aCons (fVar i) (aCons (fC (.int (m : Nat))) aNil)) η M = .ok (.int v) M' ∧ v < m ∧ Bag 0 M' ∧ Else 0 M M' := by
  obtain ⟨v, M', e, v0, v1, b, l⟩ := take_spec (m := (m : Nat)) hb (by omega) (by omega)
  refine ⟨v.toNat, M', ?_, by omega, b, l⟩
  rw [Int.toNat_of_nonneg v0]
  exact fCall_ok (aCons_ok (fVar_ok hv) (aCons_ok rfl rfl)) rfl e
end
theorem word_spec {M : MS} (hb : Bag 0 M) : ∃ d M', F__law_word [.ref 0] M = .ok d M' ∧ d.plain = true ∧ Bag 0 M' ∧ Else 0 M M' := by
  have e0 : ∃ xs, (fLst (nLst (aCons (fC (.str "a")) (aCons (fC (.str "zz")) (aCons (fC (.str "by")) (aCons (fC (.str "from")) (aCons (fC (.str "move")) (aCons (fC (.str "of")) (aCons (fC (.str "reads")) (aCons (fC (.str "secret")) (aCons (fC (.str "sign")) (aCons (fC (.str "sounds")) (aCons (fC (.str "state")) (aCons (fC (.str "to")) (aCons (fC (.str "word")) (aCons (fC (.str "abcdefgh")) (aCons (fC (.str "abcdefghi")) aNil))))))))))))))))) [some (.ref 0), none] M = .ok (.lst xs) M ∧ plains xs = true ∧ xs.length = 15 := ⟨_, (fLst_ok (nLst_ok (aCons_ok rfl (aCons_ok rfl (aCons_ok rfl (aCons_ok rfl (aCons_ok rfl (aCons_ok rfl (aCons_ok rfl (aCons_ok rfl (aCons_ok rfl (aCons_ok rfl (aCons_ok rfl (aCons_ok rfl (aCons_ok rfl (aCons_ok rfl (aCons_ok rfl rfl))))))))))))))) (by decide))), rfl, rfl⟩
  obtain ⟨xs, e0, p0, l0⟩ := e0
  have e1 : ∃ ys, (fLst (nLst (aCons (fC (.str "")) (aCons (fC (.str "A")) (aCons (fC (.str "a1")) (aCons (fC (.str "a ")) (aCons (fC (.str "ofs")) (aCons (fC (.str "a-b")) (aCons (fC .non) (aCons (fC (.int 7)) (aCons (fC (.bl true)) (aCons (fTup (aCons (fC (.str "a")) aNil)) (aCons (fLst (nLst (aCons (fC (.str "a")) aNil))) aNil))))))))))))) [some (.ref 0), some (.lst xs)] M = .ok (.lst ys) M ∧ plains ys = true ∧ ys.length = 11 := ⟨_, (fLst_ok (nLst_ok (aCons_ok rfl (aCons_ok rfl (aCons_ok rfl (aCons_ok rfl (aCons_ok rfl (aCons_ok rfl (aCons_ok rfl (aCons_ok rfl (aCons_ok rfl (aCons_ok (fTup_ok (aCons_ok rfl rfl) (by decide)) (aCons_ok (fLst_ok (nLst_ok (aCons_ok rfl rfl) (by decide))) rfl))))))))))) (by decide))), rfl, rfl⟩
  obtain ⟨ys, e1, p1, l1⟩ := e1
  have e2 : aPlus (.lst xs) (.lst ys) M = some (.lst (xs ++ ys)) := by
    simp only [aPlus, aCat, lxOf_lst]
    rw [if_pos (by rw [l0, l1, sizeLine_eq]; omega)]
  have pp : plains (xs ++ ys) = true := by rw [plains_append, p0, p1]; rfl
  obtain ⟨d, M', e3, hd, b, l⟩ := some_call (η := [some (.ref 0), some (.lst xs)]) (i := 0) rfl hb (f2_ok (fVar_ok (i := 1) rfl) e1 e2) (.inl rfl) pp (by rw [List.length_append, l0]; omega) (by rw [List.length_append, l0, l1]; omega)
  have pd := plains_iff.mp pp d hd
  refine ⟨d, M', ?_, pd, b, l⟩
  have key : s__law_word [some (.ref 0), none] M = .ret d M' := sSeq_nx (sSet_ok e0) (sRet_ok e3)
  show outF retF M (s__law_word [some (.ref 0), none] M) = _
  rw [key]
  exact retF_bag l b (plain_cl d pd)
noncomputable def st0 : Sx := (sPar 3 4 (aCons (fCall 1 F__law_word (aCons (fVar 1) aNil)) (aCons (fCall 2 F__law_some (aCons (fVar 1) (aCons (fLst (nLst (aCons (fC (.int 0)) (aCons (fC (.int 1)) (aCons (f1 aNeg (fC (.int 1))) (aCons (fC (.int 7)) (aCons (fC (.bl true)) (aCons (fC (.bl false)) (aCons (fC .non) (aCons (fC (.str "1")) (aCons (f2 aPow (fC (.int 10)) (fC (.int 40))) (aCons (f1 aNeg (f2 aPow (fC (.int 10)) (fC (.int 40)))) (aCons (fTup (aCons (fC (.int 1)) aNil)) aNil))))))))))))) aNil))) aNil)))
noncomputable def st1 : Sx := (sPar 5 6 (aCons (f2 aSub (fCall 2 F__law_take (aCons (fVar 1) (aCons (fC (.int 4)) aNil))) (fC (.int 1))) (aCons (fCall 2 F__law_take (aCons (fVar 1) (aCons (fC (.int 9)) aNil))) aNil)))
noncomputable def st2 : Sx := (sIf (tOrF (tNotF (fTru (fCall 2 F__law_alike (aCons (fCall 1 F_is_name (aCons (fVar 3) aNil)) (aCons (fCall 1 F__law_is_name (aCons (fVar 3) aNil)) aNil))))) (tNotF (fTru (fCall 2 F__law_alike (aCons (fCall 1 F_is_integer (aCons (fVar 4) aNil)) (aCons (fCall 1 F__law_is_int (aCons (fVar 4) aNil)) aNil)))))) (sRet (fC (.bl false))) sPass)
noncomputable def st3 : Sx := (sIf (tNotF (fTru (fCall 2 F__law_alike (aCons (fCall 3 F_is_within (aCons (fVar 4) (aCons (fVar 5) (aCons (fVar 6) aNil)))) (aCons (fAnd (fCall 1 F__law_is_int (aCons (fVar 4) aNil)) (fChain cLe cLe (fVar 5) (fVar 4) (fVar 6))) aNil))))) (sRet (fC (.bl false))) sPass)
noncomputable def st4 : Sx := (sSet 7 (fN bTup (aCons (fLst (nLc [15] (fRng rng1 (aCons (fCall 2 F__law_take (aCons (fVar 1) (aCons (fC (.int 4)) aNil))) aNil)) (xName 15) fYes (fCall 1 F__law_word (aCons (fVar 1) aNil)))) aNil)))
noncomputable def st5 : Sx := (sSet 8 (fAnd (f2 aEq (fLst (nLc [16] (fSrc (fVar 7)) (xName 16) (tNotF (fTru (fCall 1 F__law_is_name (aCons (fVar 16) aNil)))) (fC (.int 1)))) (fLst (nLst aNil))) (fCall 1 F__law_are_unlike (aCons (fVar 7) aNil))))
noncomputable def st6 : Sx := (sFor (fSrc (fTup (aCons (fVar 7) (aCons (fLst (nN bList (aCons (fVar 7) aNil))) (aCons (fC .non) (aCons (f2 aPlus (fVar 7) (fVar 7)) (aCons (fC (.str "ab")) aNil))))))) (xName 9) b1)
noncomputable def st7 : Sx := (sSet 11 (fSl (fTup (aCons (fC (.str "ab")) (aCons (fC (.str "q")) (aCons (fC (.str "a")) (aCons (fC (.str "zz")) aNil))))) fNone (fOpt (f2 aPlus (fC (.int 1)) (fCall 2 F__law_take (aCons (fVar 1) (aCons (fC (.int 4)) aNil)))))))
noncomputable def st8 : Sx := (sSet 12 (fN bTup (aCons (fLst (nLc [15] (fRng rng1 (aCons (fCall 2 F__law_take (aCons (fVar 1) (aCons (fC (.int 4)) aNil))) aNil)) (xName 15) fYes (fCall 2 F__law_some (aCons (fVar 1) (aCons (f2 aPlus (fLst (nN bList (aCons (fVar 11) aNil))) (fLst (nLst (aCons (fC .non) (aCons (fC (.str "x")) aNil))))) aNil))))) aNil)))
noncomputable def st9 : Sx := (sFor (fSrc (fTup (aCons (fVar 12) (aCons (fLst (nN bList (aCons (fVar 12) aNil))) (aCons (fN bTup (aCons (fLst (nN bSorted (aCons (fVar 11) aNil))) aNil)) (aCons (fVar 11) (aCons (fTup aNil) (aCons (fC .non) (aCons (f2 aPlus (fVar 11) (fSl (fVar 11) fNone (fOpt (fC (.int 1))))) aNil))))))))) (xName 9) b2)
noncomputable def st10 : Sx := (sIf (tBl (f2 aNe (fVar 8) (f2 cIs (fCall 3 F_are_names (aCons (fVar 7) (aCons (fC (.int 0)) (aCons (fC (.int 9)) aNil)))) (fC (.bl true))))) (sRet (fC (.bl false))) sPass)
noncomputable def bodyL : Sx := (sSeq st0
  (sSeq st1
  (sSeq st2
  (sSeq st3
  (sSeq st4
  (sSeq st5
  (sSeq st6
  (sSeq st7
  (sSeq st8
  (sSeq st9 st10))))))))))
theorem law_eq : s_law = sSeq (sSet 1 (fCall 1 F__law_bag (aCons (fVar 0) aNil))) (sSeq (sFor (fRng rng1 (aCons (fC (.int 10)) aNil)) (xName 2) bodyL) (sRet (fC (.bl true)))) := rfl
variable {a0 x2 x3 x4 x5 x6 x7 x8 x9 x10 x11 x12 x13 x14 x15 x16 : Option D} {M : MS}
theorem st0_ok (hb : Bag 0 M) : ∃ w d M', st0 [a0, some (.ref 0), x2, x3, x4, x5, x6, x7, x8, x9, x10, x11, x12, x13, x14, x15, x16] M = .nx [a0, some (.ref 0), x2, some w, some d, x5, x6, x7, x8, x9, x10, x11, x12, x13, x14, x15, x16] M' ∧ w.plain = true ∧ d.plain = true ∧ Bag 0 M' := by
  obtain ⟨w, M1, e1, pw, b1, l1⟩ := word_spec hb
  have e : ∃ xs, (fLst (nLst (aCons (fC (.int 0)) (aCons (fC (.int 1)) (aCons (f1 aNeg (fC (.int 1))) (aCons (fC (.int 7)) (aCons (fC (.bl true)) (aCons (fC (.bl false)) (aCons (fC .non) (aCons (fC (.str "1")) (aCons (f2 aPow (fC (.int 10)) (fC (.int 40))) (aCons (f1 aNeg (f2 aPow (fC (.int 10)) (fC (.int 40)))) (aCons (fTup (aCons (fC (.int 1)) aNil)) aNil))))))))))))) [a0, some (.ref 0), x2, x3, x4, x5, x6, x7, x8, x9, x10, x11, x12, x13, x14, x15, x16] M1 = .ok (.lst xs) M1 ∧ plains xs = true ∧ xs.length = 11 := ⟨_, (fLst_ok (nLst_ok (aCons_ok rfl (aCons_ok rfl (aCons_ok (f1_ok rfl rfl) (aCons_ok rfl (aCons_ok rfl (aCons_ok rfl (aCons_ok rfl (aCons_ok rfl (aCons_ok (f2_ok rfl rfl (aPow_int ⟨by decide, by decide, by decide⟩)) (aCons_ok (f1_ok (f2_ok rfl rfl (aPow_int ⟨by decide, by decide, by decide⟩)) rfl) (aCons_ok (fTup_ok (aCons_ok rfl rfl) (by decide)) rfl))))))))))) (by decide))), rfl, rfl⟩
  obtain ⟨xs, e, p, hl⟩ := e
  obtain ⟨d, M2, e2, hd, b2, l2⟩ := some_call (η := [a0, some (.ref 0), x2, x3, x4, x5, x6, x7, x8, x9, x10, x11, x12, x13, x14, x15, x16]) (i := 1) rfl b1 e (.inl rfl) p (by omega) (by omega)
  exact ⟨w, d, M2, sPar_ok (aCons_ok (fCall_ok (aCons_ok (fVar_ok rfl) rfl) rfl e1) (aCons_ok e2 rfl)), pw, plains_iff.mp p d hd, b2⟩
theorem st1_ok (hb : Bag 0 M) : ∃ lo hi M', st1 [a0, some (.ref 0), x2, x3, x4, x5, x6, x7, x8, x9, x10, x11, x12, x13, x14, x15, x16] M = .nx [a0, some (.ref 0), x2, x3, x4, some (.int lo), some (.int hi), x7, x8, x9, x10, x11, x12, x13, x14, x15, x16] M' ∧ Bag 0 M' := by
  obtain ⟨v, M1, e1, v1, b1, _⟩ := take_call (m := 4) (η := [a0, some (.ref 0), x2, x3, x4, x5, x6, x7, x8, x9, x10, x11, x12, x13, x14, x15, x16]) (i := 1) rfl hb (by omega) (by omega)
  obtain ⟨v', M2, e2, _, b2, _⟩ := take_call (m := 9) (η := [a0, some (.ref 0), x2, x3, x4, x5, x6, x7, x8, x9, x10, x11, x12, x13, x14, x15, x16]) (i := 1) rfl b1 (by omega) (by omega)
  exact ⟨_, _, M2, sPar_ok (aCons_ok (f2_ok e1 rfl rfl) (aCons_ok e2 rfl)), b2⟩
theorem st2_ok {w d : D} (pw : w.plain = true) (pd : d.plain = true) : st2 [a0, some (.ref 0), x2, some w, some d, x5, x6, x7, x8, x9, x10, x11, x12, x13, x14, x15, x16] M = .nx [a0, some (.ref 0), x2, some w, some d, x5, x6, x7, x8, x9, x10, x11, x12, x13, x14, x15, x16] M :=
  thenIf (orF_no (alike_no (fCall_ok (aCons_ok (fVar_ok rfl) rfl) rfl (is_name_spec pw)) (fCall_ok (aCons_ok (fVar_ok rfl) rfl) rfl (law_is_name_spec pw))) (alike_no (fCall_ok (aCons_ok (fVar_ok rfl) rfl) rfl (int_spec pd).1) (fCall_ok (aCons_ok (fVar_ok rfl) rfl) rfl (int_spec pd).2)))
theorem st3_ok {d : D} {lo hi : Int} (pd : d.plain = true) : st3 [a0, some (.ref 0), x2, x3, some d, some (.int lo), some (.int hi), x7, x8, x9, x10, x11, x12, x13, x14, x15, x16] M = .nx [a0, some (.ref 0), x2, x3, some d, some (.int lo), some (.int hi), x7, x8, x9, x10, x11, x12, x13, x14, x15, x16] M :=
  thenIf (alike_no (fCall_ok (aCons_ok (fVar_ok rfl) (aCons_ok (fVar_ok rfl) (aCons_ok (fVar_ok rfl) rfl))) rfl (within_spec pd)) (within_expr (int_spec pd).2 rfl rfl rfl))
theorem fRng_ok {f : Fx (List D)} {r : List D → Option Src} {η : Nv} {M M1 : MS} {xs : List D} {s : Src} (h : f η M = .ok xs M1) (e : r xs = some s) : fRng r f η M = .ok s M1 := by
  unfold fRng
  rw [h, bindR_ok, e]
theorem nLc_ok {vs : List Nat} {f : Fx Src} {t : Gx} {c : Fx Bool} {e : Fx D} {η : Nv} {M M1 M2 : MS} {xs ys : List D} (h : f η M = .ok ⟨xs, []⟩ M1) (h' : lcF [] t c e (wipeN η vs) xs [] M1 = .ok ys M2) : nLc vs f t c e η M = .ok ys M2 := by
  unfold nLc
  rw [h, bindR_ok]
  exact h'
theorem st4_ok (hb : Bag 0 M) : ∃ ws M', st4 [a0, some (.ref 0), x2, x3, x4, x5, x6, x7, x8, x9, x10, x11, x12, x13, x14, x15, x16] M = .nx [a0, some (.ref 0), x2, x3, x4, x5, x6, some (.tup ws), x8, x9, x10, x11, x12, x13, x14, x15, x16] M' ∧ plains ws = true ∧ ws.length ≤ 3 ∧ Bag 0 M' := by
  obtain ⟨v, M1, e1, v1, b1, _⟩ := take_call (m := 4) (η := [a0, some (.ref 0), x2, x3, x4, x5, x6, x7, x8, x9, x10, x11, x12, x13, x14, x15, x16]) (i := 1) rfl hb (by omega) (by omega)
  obtain ⟨ws, M2, e2, hl, hp, b2, _⟩ := lc_draw (P := fun d => d.plain = true) (k := 0) (t := xName 15) (f := fCall 1 F__law_word (aCons (fVar 1) aNil)) (η0 := [a0, some (.ref 0), x2, x3, x4, x5, x6, x7, x8, x9, x10, x11, x12, x13, x14, none, x16]) (fun x M hb => by
    obtain ⟨d, M', e, pd, b, l⟩ := word_spec hb
    exact ⟨_, d, M', rfl, fCall_ok (aCons_ok (fVar_ok rfl) rfl) rfl e, pd, b, l⟩) (rangeD 0 v) [] M1 b1 (by simp [rangeD]; omega)
  have hv : (rangeD 0 v).length = v := by simp [rangeD]
  exact ⟨ws, M2, sSet_ok (fN_ok (aCons_ok (fLst_ok (nLc_ok (fRng_ok (aCons_ok e1 rfl) (rng1_nat (by omega))) e2)) rfl) rfl), plains_iff.mpr hp, by omega, b2⟩
theorem st5_ok {ws : List D} (p : plains ws = true) (hl : ws.length ≤ 3) : st5 [a0, some (.ref 0), x2, x3, x4, x5, x6, some (.tup ws), x8, x9, x10, x11, x12, x13, x14, x15, x16] M = .nx [a0, some (.ref 0), x2, x3, x4, x5, x6, some (.tup ws), some (.bl (good ws)), x9, x10, x11, x12, x13, x14, x15, x16] M :=
  sSet_ok (fAnd_bl (comp_names (i := 16) (j := 7) rfl (Nat.lt_succ_self 16) p (by omega)) fun h => unlike_expr rfl (all_names h) (by omega))
theorem for_ok {P : Nv → MS → Prop} {f : Fx Src} {t : Gx} {b : Sx} {η : Nv} {M M1 : MS} {xs : List D} (h : f η M = .ok ⟨xs, []⟩ M1) (hs : ∀ x ∈ xs, ∀ η M, P η M → ∃ η1 η', t x η M = .nx η1 M ∧ ∃ M', b η1 M = .nx η' M' ∧ P η' M') (p : P η M1) : ∃ η' M', sFor f t b η M = .nx η' M' ∧ P η' M' := by
  obtain ⟨η', M', e, q⟩ := loop_inv hs p
  refine ⟨η', M', ?_, q⟩
  unfold sFor
  rw [h, bindS_ok]
  exact e
theorem th_tup {xs : List D} (p : plains xs = true) (h : xs.length ≤ 1000) : Th (.tup xs) := ⟨p, .inl ⟨xs, rfl, h⟩⟩
theorem th_no {d : D} (p : d.plain = true) (h : tupQ d = false) : Th d := ⟨p, .inr h⟩
theorem fSrc_tup {f : Fx D} {η : Nv} {M M1 : MS} {xs : List D} (h : f η M = .ok (.tup xs) M1) : fSrc f η M = .ok ⟨xs, []⟩ M1 := by
  unfold fSrc
  rw [h]
  rfl
theorem plus_tup {M : MS} {xs ys : List D} (h : xs.length + ys.length ≤ 1000) : aPlus (.tup xs) (.tup ys) M = some (.tup (xs ++ ys)) := by
  simp only [aPlus, aCat, lxOf_tup, aAdd]
  rw [if_pos (by rw [sizeLine_eq]; omega)]
theorem st6_ok {ws : List D} {lo hi : Int} (p : plains ws = true) (hl : ws.length ≤ 3) : ∃ y9 y10, st6 [a0, some (.ref 0), x2, x3, x4, some (.int lo), some (.int hi), some (.tup ws), x8, x9, x10, x11, x12, x13, x14, x15, x16] M = .nx [a0, some (.ref 0), x2, x3, x4, some (.int lo), some (.int hi), some (.tup ws), x8, y9, y10, x11, x12, x13, x14, x15, x16] M := by
  obtain ⟨η', M', e, y9, y10, rfl, rfl⟩ := for_ok (P := fun η' M' => ∃ y9 y10, η' = [a0, some (.ref 0), x2, x3, x4, some (.int lo), some (.int hi), some (.tup ws), x8, y9, y10, x11, x12, x13, x14, x15, x16] ∧ M' = M) (t := xName 9) (b := b1) (η := [a0, some (.ref 0), x2, x3, x4, some (.int lo), some (.int hi), some (.tup ws), x8, x9, x10, x11, x12, x13, x14, x15, x16]) (M := M)
    (fSrc_tup (fTup_ok (n := (aCons (fVar 7) (aCons (fLst (nN bList (aCons (fVar 7) aNil))) (aCons (fC .non) (aCons (f2 aPlus (fVar 7) (fVar 7)) (aCons (fC (.str "ab")) aNil)))))) (aCons_ok (fVar_ok rfl) (aCons_ok (fLst_ok (nN_ok (aCons_ok (fVar_ok rfl) rfl) rfl)) (aCons_ok rfl (aCons_ok (f2_ok (fVar_ok rfl) (fVar_ok rfl) (plus_tup (by omega))) (aCons_ok rfl rfl))))) (by show 5 ≤ 1000; omega)))
    (fun d hd η M2 hP => by
      obtain ⟨y9, y10, rfl, rfl⟩ := hP
      have th : Th d := by
        simp only [List.mem_cons, List.not_mem_nil, or_false] at hd
        rcases hd with rfl | rfl | rfl | rfl | rfl
        · exact th_tup p (by omega)
        · exact th_no p rfl
        · exact th_no rfl rfl
        · exact th_tup (by rw [plains_append, p]; rfl) (by rw [List.length_append]; omega)
        · exact th_no rfl rfl
      obtain ⟨y, e⟩ := b1_ok (a0 := a0) (a1 := some (.ref 0)) (x2 := x2) (x3 := x3) (x4 := x4) (lo := lo) (hi := hi) (x7 := some (.tup ws)) (x8 := x8) (x10 := y10) (x11 := x11) (x12 := x12) (x13 := x13) (x14 := x14) (x15 := x15) (x16 := x16) (M := M2) th
      exact ⟨_, _, rfl, M2, e, some d, y, rfl, rfl⟩)
    ⟨x9, x10, rfl, rfl⟩
  exact ⟨y9, y10, e⟩
end Lk01
end
section
set_option Elab.async false
set_option linter.all false
set_option maxRecDepth 100000
set_option maxHeartbeats 4000000
set_option autoImplicit false
namespace Lk01
open PySem PySem.Spec L2 NV
variable {a0 x2 x3 x4 x5 x6 x7 x8 x9 x10 x11 x12 x13 x14 x15 x16 : Option D} {M : MS}
/-- the four names -/
def abq : List Str := ["ab", "q", "a", "zz"]
theorem abq_names : ∀ s ∈ abq, nmS s = true := by decide +kernel
theorem fSl_ok {fx : Fx D} {fl fh : Fx (Option Int)} {η : Nv} {M M1 M2 M3 : MS} {x z : D} {l h : Option Int} (e1 : fx η M = .ok x M1) (e2 : fl η M1 = .ok l M2) (e3 : fh η M2 = .ok h M3) (e : aSl x l h M3 = some z) : fSl fx fl fh η M = .ok z M3 := by
  unfold fSl
  rw [e1, bindR_ok, e2, bindR_ok, e3, bindR_ok, e]
  rfl
theorem fOpt_ok {f : Fx D} {η : Nv} {M M1 : MS} {i : Int} (h : f η M = .ok (.int i) M1) : fOpt f η M = .ok (some i) M1 := by
  unfold fOpt
  rw [h]
  rfl
theorem sl_take {M : MS} {xs : List D} {k : Nat} (h : k ≤ xs.length) : aSl (.tup xs) none (some (k : Int)) M = some (.tup (xs.take k)) := by
  show some (D.tup (cut xs none (some (k : Int)))) = _
  rw [cut_take h]
theorem st7_ok (hb : Bag 0 M) : ∃ (N : List Str) (M' : MS), st7 [a0, some (.ref 0), x2, x3, x4, x5, x6, x7, x8, x9, x10, x11, x12, x13, x14, x15, x16] M = .nx [a0, some (.ref 0), x2, x3, x4, x5, x6, x7, x8, x9, x10, some (.tup (N.map .str)), x12, x13, x14, x15, x16] M' ∧ (∀ s ∈ N, nmS s = true) ∧ 0 < N.length ∧ N.length ≤ 4 ∧ Bag 0 M' := by
  obtain ⟨v, M1, e1, v1, b1, _⟩ := take_call (m := 4) (η := [a0, some (.ref 0), x2, x3, x4, x5, x6, x7, x8, x9, x10, x11, x12, x13, x14, x15, x16]) (i := 1) rfl hb (by omega) (by omega)
  have ha : abq.length = 4 := rfl
  have hs : aSl (.tup (abq.map .str)) none (some (1 + (v : Int))) M1 = some (.tup ((abq.take (1 + v)).map .str)) := by
    have : (1 + (v : Int)) = ((1 + v : Nat) : Int) := by omega
    rw [this, sl_take (by rw [List.length_map]; omega), List.map_take]
  refine ⟨abq.take (1 + v), M1, sSet_ok (fSl_ok (fTup_ok (xs := abq.map .str) (aCons_ok rfl (aCons_ok rfl (aCons_ok rfl (aCons_ok rfl rfl)))) (by decide)) rfl (fOpt_ok (f2_ok rfl e1 rfl)) hs), fun s h => abq_names s (List.mem_of_mem_take h), by rw [List.length_take]; omega, by rw [List.length_take]; omega, b1⟩
theorem st8_ok {N : List Str} (h0 : 0 < N.length) (h4 : N.length ≤ 4) (hb : Bag 0 M) : ∃ ws M', st8 [a0, some (.ref 0), x2, x3, x4, x5, x6, x7, x8, x9, x10, some (.tup (N.map .str)), x12, x13, x14, x15, x16] M = .nx [a0, some (.ref 0), x2, x3, x4, x5, x6, x7, x8, x9, x10, some (.tup (N.map .str)), some (.tup ws), x13, x14, x15, x16] M' ∧ plains ws = true ∧ ws.length ≤ 3 ∧ Bag 0 M' := by
  obtain ⟨v, M1, e1, v1, b1, _⟩ := take_call (m := 4) (η := [a0, some (.ref 0), x2, x3, x4, x5, x6, x7, x8, x9, x10, some (.tup (N.map .str)), x12, x13, x14, x15, x16]) (i := 1) rfl hb (by omega) (by omega)
  have hp : plains (N.map .str ++ [D.non, D.str "x"]) = true := by rw [plains_append, plains_strs]; rfl
  have hlen : (N.map D.str ++ [D.non, D.str "x"]).length ≤ 6 := by rw [List.length_append, List.length_map]; show N.length + 2 ≤ 6; omega
  have hpl : ∀ M, aPlus (.lst (N.map .str)) (.lst [D.non, D.str "x"]) M = some (.lst (N.map .str ++ [D.non, D.str "x"])) := fun M => by
    simp only [aPlus, aCat, lxOf_lst]
    rw [if_pos (by rw [List.length_map, sizeLine_eq]; show N.length + 2 ≤ _; omega)]
  obtain ⟨ws, M2, e2, hl, hq, b2, _⟩ := lc_draw (P := fun d => d.plain = true) (k := 0) (t := xName 15) (f := fCall 2 F__law_some (aCons (fVar 1) (aCons (f2 aPlus (fLst (nN bList (aCons (fVar 11) aNil))) (fLst (nLst (aCons (fC .non) (aCons (fC (.str "x")) aNil))))) aNil))) (η0 := [a0, some (.ref 0), x2, x3, x4, x5, x6, x7, x8, x9, x10, some (.tup (N.map .str)), x12, x13, x14, none, x16]) (fun x M hb => by
    obtain ⟨d, M', e, hd, b, l⟩ := some_call (M := M) (f := f2 aPlus (fLst (nN bList (aCons (fVar 11) aNil))) (fLst (nLst (aCons (fC .non) (aCons (fC (.str "x")) aNil))))) (η := [a0, some (.ref 0), x2, x3, x4, x5, x6, x7, x8, x9, x10, some (.tup (N.map .str)), x12, x13, x14, some x, x16]) (i := 1) rfl hb (f2_ok (fLst_ok (nN_ok (aCons_ok (fVar_ok rfl) rfl) rfl)) (fLst_ok (nLst_ok (aCons_ok rfl (aCons_ok rfl rfl)) (by decide))) (hpl M)) (.inl rfl) hp (by rw [List.length_append]; show 0 < _ + 2; omega) (by omega)
    exact ⟨_, d, M', rfl, e, plains_iff.mp hp d hd, b, l⟩) (rangeD 0 v) [] M1 b1 (by simp [rangeD]; omega)
  have hv : (rangeD 0 v).length = v := by simp [rangeD]
  exact ⟨ws, M2, sSet_ok (fN_ok (aCons_ok (fLst_ok (nLc_ok (fRng_ok (aCons_ok e1 rfl) (rng1_nat (by omega))) e2)) rfl) rfl), plains_iff.mpr hq, by omega, b2⟩
theorem st9_ok {N : List Str} {ws : List D} (hN : ∀ s ∈ N, nmS s = true) (h0 : 0 < N.length) (h4 : N.length ≤ 4) (p : plains ws = true) (hl : ws.length ≤ 3) : ∃ y9 y13 y14, st9 [a0, some (.ref 0), x2, x3, x4, x5, x6, x7, x8, x9, x10, some (.tup (N.map .str)), some (.tup ws), x13, x14, x15, x16] M = .nx [a0, some (.ref 0), x2, x3, x4, x5, x6, x7, x8, y9, x10, some (.tup (N.map .str)), some (.tup ws), y13, y14, x15, x16] M := by
  have hs : aSl (.tup (N.map .str)) none (some 1) M = some (.tup ((N.map D.str).take 1)) := sl_take (k := 1) (by rw [List.length_map]; omega)
  have hlN : (N.map D.str).length ≤ 4 := by rw [List.length_map]; exact h4
  have hlT : ((N.map D.str).take 1).length ≤ 1 := by rw [List.length_take]; omega
  have hpT : plains ((N.map D.str).take 1) = true := by rw [← List.map_take]; exact plains_strs _
  have hpS : plains ((N.map D.str).mergeSort (PySem.W.dataLe false D.p)) = true := plains_iff.mpr fun x hx => plains_iff.mp (plains_strs N) x ((List.mergeSort_perm _ _).mem_iff.mp hx)
  have hlS : ((N.map D.str).mergeSort (PySem.W.dataLe false D.p)).length ≤ 4 := by rw [(List.mergeSort_perm _ _).length_eq]; exact hlN
  obtain ⟨η', M', e, y9, y13, y14, rfl, rfl⟩ := for_ok (P := fun η' M' => ∃ y9 y13 y14, η' = [a0, some (.ref 0), x2, x3, x4, x5, x6, x7, x8, y9, x10, some (.tup (N.map .str)), some (.tup ws), y13, y14, x15, x16] ∧ M' = M) (t := xName 9) (b := b2) (η := [a0, some (.ref 0), x2, x3, x4, x5, x6, x7, x8, x9, x10, some (.tup (N.map .str)), some (.tup ws), x13, x14, x15, x16]) (M := M)
    (fSrc_tup (fTup_ok (n := (aCons (fVar 12) (aCons (fLst (nN bList (aCons (fVar 12) aNil))) (aCons (fN bTup (aCons (fLst (nN bSorted (aCons (fVar 11) aNil))) aNil)) (aCons (fVar 11) (aCons (fTup aNil) (aCons (fC .non) (aCons (f2 aPlus (fVar 11) (fSl (fVar 11) fNone (fOpt (fC (.int 1))))) aNil)))))))) (aCons_ok (fVar_ok rfl) (aCons_ok (fLst_ok (nN_ok (aCons_ok (fVar_ok rfl) rfl) rfl)) (aCons_ok (fN_ok (aCons_ok (fLst_ok (nN_ok (aCons_ok (fVar_ok rfl) rfl) (sorted_strs N))) rfl) rfl) (aCons_ok (fVar_ok rfl) (aCons_ok (fTup_ok rfl (Nat.zero_le _)) (aCons_ok rfl (aCons_ok (f2_ok (fVar_ok rfl) (fSl_ok (fVar_ok rfl) rfl (fOpt_ok rfl) hs) (plus_tup (by omega))) rfl))))))) (by show 7 ≤ 1000; omega)))
    (fun d hd η M2 hP => by
      obtain ⟨y9, y13, y14, rfl, rfl⟩ := hP
      have th : Th d := by
        simp only [List.mem_cons, List.not_mem_nil, or_false] at hd
        rcases hd with rfl | rfl | rfl | rfl | rfl | rfl | rfl
        · exact th_tup p (by omega)
        · exact th_no p rfl
        · exact th_tup hpS (by omega)
        · exact th_tup (plains_strs N) (by omega)
        · exact th_tup rfl (Nat.zero_le _)
        · exact th_no rfl rfl
        · exact th_tup (by rw [plains_append, plains_strs, hpT]; rfl) (by rw [List.length_append]; omega)
      obtain ⟨y, z, e⟩ := b2_ok (a0 := a0) (a1 := some (.ref 0)) (x2 := x2) (x3 := x3) (x4 := x4) (x5 := x5) (x6 := x6) (x7 := x7) (x8 := x8) (x10 := x10) (x12 := some (.tup ws)) (x13 := y13) (x14 := y14) (x15 := x15) (x16 := x16) (M := M2) hN th
      exact ⟨_, _, rfl, M2, e, some d, y, z, rfl, rfl⟩)
    ⟨x9, x13, x14, rfl, rfl⟩
  exact ⟨y9, y13, y14, e⟩
theorem st10_ok {ws : List D} (p : plains ws = true) (hl : ws.length ≤ 3) : st10 [a0, some (.ref 0), x2, x3, x4, x5, x6, some (.tup ws), some (.bl (good ws)), x9, x10, x11, x12, x13, x14, x15, x16] M = .nx [a0, some (.ref 0), x2, x3, x4, x5, x6, some (.tup ws), some (.bl (good ws)), x9, x10, x11, x12, x13, x14, x15, x16] M := by
  have e := are_names_spec (M := M) (lo := 0) (hi := 9) p (by omega : ws.length ≤ 1000)
  have h1 : decide ((0 : Int) ≤ ws.length) = true := decide_eq_true (by omega)
  have h2 : decide ((ws.length : Int) ≤ 9) = true := decide_eq_true (by omega)
  rw [h1, h2, Bool.true_and, Bool.true_and] at e
  refine thenIf (tBl_bl (f2_ok (fVar_ok rfl) (f2_ok (fCall_ok (aCons_ok (fVar_ok rfl) (aCons_ok rfl (aCons_ok rfl rfl))) rfl e) rfl rfl) ?_))
  rw [aNe_bl]
  cases good ws <;> rfl
theorem body_ok (hb : Bag 0 M) : ∃ y2 y3 y4 y5 y6 y7 y8 y9 y10 y11 y12 y13 y14 y15 y16 M', bodyL [a0, some (.ref 0), x2, x3, x4, x5, x6, x7, x8, x9, x10, x11, x12, x13, x14, x15, x16] M = .nx [a0, some (.ref 0), y2, y3, y4, y5, y6, y7, y8, y9, y10, y11, y12, y13, y14, y15, y16] M' ∧ Bag 0 M' := by
  obtain ⟨w, d, M1, e0, pw, pd, b1⟩ := st0_ok (a0 := a0) (x2 := x2) (x3 := x3) (x4 := x4) (x5 := x5) (x6 := x6) (x7 := x7) (x8 := x8) (x9 := x9) (x10 := x10) (x11 := x11) (x12 := x12) (x13 := x13) (x14 := x14) (x15 := x15) (x16 := x16) hb
  obtain ⟨lo, hi, M2, e1, b2⟩ := st1_ok (a0 := a0) (x2 := x2) (x3 := some w) (x4 := some d) (x5 := x5) (x6 := x6) (x7 := x7) (x8 := x8) (x9 := x9) (x10 := x10) (x11 := x11) (x12 := x12) (x13 := x13) (x14 := x14) (x15 := x15) (x16 := x16) b1
  obtain ⟨ws, M3, e4, p3, l3, b3⟩ := st4_ok (a0 := a0) (x2 := x2) (x3 := some w) (x4 := some d) (x5 := some (.int lo)) (x6 := some (.int hi)) (x7 := x7) (x8 := x8) (x9 := x9) (x10 := x10) (x11 := x11) (x12 := x12) (x13 := x13) (x14 := x14) (x15 := x15) (x16 := x16) b2
  obtain ⟨y9, y10, e6⟩ := st6_ok (M := M3) (a0 := a0) (x2 := x2) (x3 := some w) (x4 := some d) (lo := lo) (hi := hi) (x8 := some (.bl (good ws))) (x9 := x9) (x10 := x10) (x11 := x11) (x12 := x12) (x13 := x13) (x14 := x14) (x15 := x15) (x16 := x16) p3 l3
  obtain ⟨N, M4, e7, hN, h0, h4, b4⟩ := st7_ok (a0 := a0) (x2 := x2) (x3 := some w) (x4 := some d) (x5 := some (.int lo)) (x6 := some (.int hi)) (x7 := some (.tup ws)) (x8 := some (.bl (good ws))) (x9 := y9) (x10 := y10) (x11 := x11) (x12 := x12) (x13 := x13) (x14 := x14) (x15 := x15) (x16 := x16) b3
  obtain ⟨zs, M5, e8, p5, l5, b5⟩ := st8_ok (a0 := a0) (x2 := x2) (x3 := some w) (x4 := some d) (x5 := some (.int lo)) (x6 := some (.int hi)) (x7 := some (.tup ws)) (x8 := some (.bl (good ws))) (x9 := y9) (x10 := y10) (x12 := x12) (x13 := x13) (x14 := x14) (x15 := x15) (x16 := x16) h0 h4 b4
  obtain ⟨z9, z13, z14, e9⟩ := st9_ok (M := M5) (a0 := a0) (x2 := x2) (x3 := some w) (x4 := some d) (x5 := some (.int lo)) (x6 := some (.int hi)) (x7 := some (.tup ws)) (x8 := some (.bl (good ws))) (x9 := y9) (x10 := y10) (x13 := x13) (x14 := x14) (x15 := x15) (x16 := x16) hN h0 h4 p5 l5
  exact ⟨_, _, _, _, _, _, _, _, _, _, _, _, _, _, _, M5, sSeq_nx e0 (sSeq_nx e1 (sSeq_nx (st2_ok pw pd) (sSeq_nx (st3_ok pd) (sSeq_nx e4 (sSeq_nx (st5_ok p3 l3) (sSeq_nx e6 (sSeq_nx e7 (sSeq_nx e8 (sSeq_nx e9 (st10_ok p3 l3)))))))))), b5⟩
/-- the law says True of every list of whole numbers -/
theorem law_true (ns : List Int) (h : ns.length ≤ 63) : ∃ M', F_law [.frl (ns.map .int)] [] = .ok (.bl true) M' := by
  obtain ⟨o, e, b⟩ := bag_spec h
  obtain ⟨η', M', e2, ys, hy, b2⟩ := for_ok (P := fun η M => (∃ y2 y3 y4 y5 y6 y7 y8 y9 y10 y11 y12 y13 y14 y15 y16, η = [some (.frl (ns.map .int)), some (.ref 0), y2, y3, y4, y5, y6, y7, y8, y9, y10, y11, y12, y13, y14, y15, y16]) ∧ Bag 0 M) (f := fRng rng1 (aCons (fC (.int 10)) aNil)) (t := xName 2) (b := bodyL) (η := [some (.frl (ns.map .int)), some (.ref 0), none, none, none, none, none, none, none, none, none, none, none, none, none, none, none]) (M := [o])
    (fRng_ok (aCons_ok rfl rfl) (rng1_nat (n := 10) (by omega)))
    (fun d hd η M hP => by
      obtain ⟨⟨y2, y3, y4, y5, y6, y7, y8, y9, y10, y11, y12, y13, y14, y15, y16, rfl⟩, hb⟩ := hP
      obtain ⟨z2, z3, z4, z5, z6, z7, z8, z9, z10, z11, z12, z13, z14, z15, z16, M', e, hb'⟩ := body_ok (a0 := some (.frl (ns.map .int))) (x2 := some d) (x3 := y3) (x4 := y4) (x5 := y5) (x6 := y6) (x7 := y7) (x8 := y8) (x9 := y9) (x10 := y10) (x11 := y11) (x12 := y12) (x13 := y13) (x14 := y14) (x15 := y15) (x16 := y16) hb
      exact ⟨_, _, rfl, M', e, ⟨_, _, _, _, _, _, _, _, _, _, _, _, _, _, _, rfl⟩, hb'⟩)
    ⟨⟨_, _, _, _, _, _, _, _, _, _, _, _, _, _, _, rfl⟩, b⟩
  have key : s_law [some (.frl (ns.map .int)), none, none, none, none, none, none, none, none, none, none, none, none, none, none, none, none] [] = .ret (.bl true) M' := by
    rw [law_eq]
    exact sSeq_nx (sSet_ok (fCall_ok (aCons_ok (fVar_ok rfl) rfl) rfl e)) (sSeq_nx e2 (sRet_ok rfl))
  refine ⟨M'.take 0, ?_⟩
  show outF retF [] (s_law [some (.frl (ns.map .int)), none, none, none, none, none, none, none, none, none, none, none, none, none, none, none, none] []) = _
  rw [key]
  exact retF_ok (M := []) (M' := M') (d := .bl true) ⟨Nat.zero_le _, fun n hn => absurd hn (Nat.not_lt_zero _)⟩ rfl
end Lk01
end
theorem PySem.Challenge.cw_neversure_k01_forms_of_any_values_holds : PySem.Challenge.rw_neversure_k01_forms_of_any_values.Holds :=
  Lk01.holds_of Lk01.law_true
