import PyProof.Rows.All
import Wide.All
import OpenK.AllK
import Wide.FinOn
import HandS.ForMost
import HandS.ForExc
import HandS.CallSlots
import HandS.TupAny
import HandS.Deep
import HandS.FStr
import HandS.Flow
import HandS.IsInst
import HandS.RaiseMore
import HandS.Conv
import HandS.Small
import HandS.Comp
import HandS.DictComp
import HandS.SetKeys
import HandS.Defaults
import KE.KStateDown
import HandS.Ends
import HandS.More
import HandS.Head0
import HandS.Head1
import HandS.Head2
import HandS.HeadEnd
import HandS.HeadHook1
import HandS.HeadHook2
import PySem.Challenge.RW_truemill_k39_good_claims
section OfDL1
set_option Elab.async false
set_option linter.all false
set_option maxRecDepth 100000
/-! DL1: values without the heap, a store of objects by numbers, and what it is to stand for the abstract heap -/
namespace DL
open PySem PySem.Spec PyProof.Rows L2

/-- a value: tuples are values, mutable objects are numbers of the store -/
inductive D where
  | non | bl (b : Bool) | int (i : Int) | str (s : List Nat) | tup (l : List D) | ref (n : Nat)

abbrev T (l : List Nat) : Str := ⟨l.toArray⟩
theorem T_inj {a b : List Nat} (h : T a = T b) : a = b := by
  have := congrArg (fun x : Str => x.cps.toList) h
  simpa [T] using this
theorem T_of (x : Str) : x = T x.cps.toList := by cases x; simp [T]

/-- an object of the store; classes and field names by numbers -/
inductive O where
  | lst (xs : List D)
  | frz (xs : List D)
  | dic (kvs : List (D × D))
  | lck (kvs : List (D × D))
  | ins (c : Nat) (fs : List (Nat × D))
abbrev Sto := List O
abbrev Env := List (Option D)

/-- what the text has: the written part, the classes' addresses, the field names -/
structure G where
  K : PySem.W.Frag
  cls : List Addr
  fn : List Str
  fnd : fn.Nodup

mutual
inductive Den (K : PySem.W.Frag) (ia : List Addr) (H : Hp) : V → D → Prop
  | non : Den K ia H .non .non
  | bl (b : Bool) : Den K ia H (.bl b) (.bl b)
  | int (i : Int) : Den K ia H (.int i) (.int i)
  | str (s : List Nat) : Den K ia H (.str (T s)) (.str s)
  | tup {a : Addr} {vs : List V} {ds : List D} : SqT K H a vs → Dens K ia H vs ds → Den K ia H (.ref a) (.tup ds)
  | ref {a : Addr} {n : Nat} : ia[n]? = some a → Den K ia H (.ref a) (.ref n)
inductive Dens (K : PySem.W.Frag) (ia : List Addr) (H : Hp) : List V → List D → Prop
  | nil : Dens K ia H [] []
  | cons {v : V} {vs : List V} {d : D} {ds : List D} : Den K ia H v d → Dens K ia H vs ds → Dens K ia H (v :: vs) (d :: ds)
end

/-- later: more objects, the tuples and the locked things stand -/
structure Ext (ia : List Addr) (H : Hp) (ia' : List Addr) (H' : Hp) : Prop where
  pre : ∃ t, ia' = ia ++ t
  tup : ∀ a xs, H a = some (.tup xs) → H' a = some (.tup xs)
  frz : ∀ a o u, H a = some (.frz o u) → H' a = some (.frz o u)

section
variable {K : PySem.W.Frag} {ia ia' ia2 : List Addr} {H H' H2 : Hp}
theorem Ext.refl : Ext ia H ia H := ⟨⟨[], by simp⟩, fun _ _ h => h, fun _ _ _ h => h⟩
theorem Ext.trans (a : Ext ia H ia' H') (b : Ext ia' H' ia2 H2) : Ext ia H ia2 H2 := by
  obtain ⟨t, rfl⟩ := a.pre
  obtain ⟨u, rfl⟩ := b.pre
  exact ⟨⟨t ++ u, by simp⟩, fun _ _ h => b.tup _ _ (a.tup _ _ h), fun _ _ _ h => b.frz _ _ _ (a.frz _ _ _ h)⟩
theorem Ext.at (x : Ext ia H ia' H') {n : Nat} {a : Addr} (h : ia[n]? = some a) : ia'[n]? = some a := by
  obtain ⟨t, rfl⟩ := x.pre
  have hl := (List.getElem?_eq_some_iff.mp h).1
  rw [List.getElem?_append_left hl]; exact h
theorem Ext.sqT (x : Ext ia H ia' H') {a : Addr} {xs : List V} (h : SqT K H a xs) : SqT K H' a xs := by
  rcases h with (h | ⟨o, h⟩) | h
  · exact .inl (.inl (x.tup _ _ h))
  · exact .inl (.inr ⟨o, x.frz _ _ _ h⟩)
  · exact .inr h
mutual
theorem Den.ext (x : Ext ia H ia' H') : ∀ {v : V} {d : D}, Den K ia H v d → Den K ia' H' v d
  | _, _, .non => .non
  | _, _, .bl b => .bl b
  | _, _, .int i => .int i
  | _, _, .str s => .str s
  | _, _, .tup h hs => .tup (x.sqT h) (Dens.ext x hs)
  | _, _, .ref h => .ref (x.at h)
theorem Dens.ext (x : Ext ia H ia' H') : ∀ {vs : List V} {ds : List D}, Dens K ia H vs ds → Dens K ia' H' vs ds
  | _, _, .nil => .nil
  | _, _, .cons h hs => .cons (Den.ext x h) (Dens.ext x hs)
end
theorem Dens.length : ∀ {vs : List V} {ds : List D}, Dens K ia H vs ds → vs.length = ds.length
  | _, _, .nil => rfl
  | _, _, .cons _ t => by simp [Dens.length t]
theorem Dens.append : ∀ {vs ws : List V} {ds es : List D}, Dens K ia H vs ds → Dens K ia H ws es → Dens K ia H (vs ++ ws) (ds ++ es)
  | _, _, _, _, .nil, s => s
  | _, _, _, _, .cons r t, s => .cons r (Dens.append t s)
theorem Dens.get : ∀ {vs : List V} {ds : List D} {i : Nat} {d : D}, Dens K ia H vs ds → ds[i]? = some d → ∃ v, vs[i]? = some v ∧ Den K ia H v d
  | _, _, _, _, .nil, e => by simp at e
  | _, _, 0, _, .cons r _, e => by simp at e; subst e; exact ⟨_, rfl, r⟩
  | _, _, i + 1, x, .cons _ t, e => by
    obtain ⟨u, h1, h2⟩ := Dens.get (i := i) (d := x) t (by simpa using e)
    exact ⟨u, by simpa using h1, h2⟩
theorem Dens.getV : ∀ {vs : List V} {ds : List D} {i : Nat} {v : V}, Dens K ia H vs ds → vs[i]? = some v → ∃ d, ds[i]? = some d ∧ Den K ia H v d
  | _, _, _, _, .nil, e => by simp at e
  | _, _, 0, _, .cons r _, e => by simp at e; subst e; exact ⟨_, rfl, r⟩
  | _, _, i + 1, x, .cons _ t, e => by
    obtain ⟨u, h1, h2⟩ := Dens.getV (i := i) (v := x) t (by simpa using e)
    exact ⟨u, by simpa using h1, h2⟩
theorem Dens.take : ∀ {vs : List V} {ds : List D} (n : Nat), Dens K ia H vs ds → Dens K ia H (vs.take n) (ds.take n)
  | _, _, 0, _ => .nil
  | _, _, _ + 1, .nil => .nil
  | _, _, n + 1, .cons r t => .cons r (Dens.take n t)
theorem Dens.drop : ∀ {vs : List V} {ds : List D} (n : Nat), Dens K ia H vs ds → Dens K ia H (vs.drop n) (ds.drop n)
  | _, _, 0, r => r
  | _, _, _ + 1, .nil => .nil
  | _, _, n + 1, .cons _ t => Dens.drop n t
theorem Dens.set {v : V} {d : D} (r : Den K ia H v d) : ∀ {vs : List V} {ds : List D} (i : Nat), Dens K ia H vs ds → Dens K ia H (vs.set i v) (ds.set i d)
  | _, _, _, .nil => .nil
  | _, _, 0, .cons _ t => .cons r t
  | _, _, i + 1, .cons q t => .cons q (Dens.set r i t)
end

/-- a dict's key: ints and texts -/
def keyD : D → Option Key
  | .int i => some (.inl i)
  | .str s => some (.inr (T s))
  | _ => none
theorem keyD_inj {a b : D} {k : Key} (ha : keyD a = some k) (hb : keyD b = some k) : a = b := by
  cases a <;> simp [keyD] at ha <;> cases b <;> simp [keyD] at hb
  · rw [← ha] at hb; simpa using hb.symm
  · rw [← ha] at hb; cases hb
  · rw [← ha] at hb; cases hb
  · rw [← ha] at hb
    have := Sum.inr.inj hb
    rw [T_inj this]
def KRel (K : PySem.W.Frag) (ia : List Addr) (H : Hp) (p : D × D) (q : Key × V) : Prop := keyD p.1 = some q.1 ∧ Den K ia H q.2 p.2
def FRel (g : G) (ia : List Addr) (H : Hp) (p : Nat × D) (q : Str × V) : Prop := g.fn[p.1]? = some q.1 ∧ Den g.K ia H q.2 p.2
/-- a list that is only read -/
def FrzL (K : PySem.W.Frag) (H : Hp) (a : Addr) (vs : List V) : Prop :=
  (∃ o, H a = some (.frz o (.lst vs))) ∨
    (H a = none ∧ ∃ (o : Obj) (its : Array Value) (n : Nat), K.lookup a = some o ∧ o.cls = .type "list" ∧ o.dict = none ∧ o.data = .seq its n ∧ its.size ≤ sizeLine ∧ Vals vs its.toList)
def ORel (g : G) (ia : List Addr) (H : Hp) (a : Addr) : O → Prop
  | .lst xs => ∃ vs, H a = some (.lst vs) ∧ Dens g.K ia H vs xs
  | .frz xs => ∃ vs o, H a = some (.frz o (.lst vs)) ∧ Dens g.K ia H vs xs
  | .dic kvs => ∃ vs, H a = some (.dK vs) ∧ Paired (KRel g.K ia H) kvs vs
  | .lck kvs => ∃ o vs, H a = some (.frz o (.dK vs)) ∧ Paired (KRel g.K ia H) kvs vs
  | .ins c fs => ∃ C dx vs, g.cls[c]? = some C ∧ H a = some (.ins C dx vs) ∧ Paired (FRel g ia H) fs vs
structure Abs (g : G) (ia : List Addr) (H : Hp) (S : Sto) : Prop where
  len : ia.length = S.length
  nd : ia.Nodup
  obj : ∀ (n : Nat) (a : Addr) (o : O), ia[n]? = some a → S[n]? = some o → ORel g ia H a o
/-- the slots -/
inductive ODen (K : PySem.W.Frag) (ia : List Addr) (H : Hp) : Option V → Option D → Prop
  | none : ODen K ia H none none
  | lost {v : V} : ODen K ia H (some v) none
  | some {v : V} {d : D} : Den K ia H v d → ODen K ia H (some v) (some d)
abbrev EDen (K : PySem.W.Frag) (ia : List Addr) (H : Hp) : L2.St → Env → Prop := Paired (ODen K ia H)

section
variable {g : G} {ia ia' : List Addr} {H H' : Hp} {S : Sto}
theorem KRel.ext (x : Ext ia H ia' H') {p : D × D} {q : Key × V} (h : KRel g.K ia H p q) : KRel g.K ia' H' p q := ⟨h.1, h.2.ext x⟩
theorem FRel.ext (x : Ext ia H ia' H') {p : Nat × D} {q : Str × V} (h : FRel g ia H p q) : FRel g ia' H' p q := ⟨h.1, h.2.ext x⟩
theorem ODen.ext {K : PySem.W.Frag} (x : Ext ia H ia' H') {v : Option V} {d : Option D} (h : ODen K ia H v d) : ODen K ia' H' v d := by
  cases h with
  | none => exact .none
  | lost => exact .lost
  | some h => exact .some (h.ext x)
theorem EDen.ext {K : PySem.W.Frag} (x : Ext ia H ia' H') {s : L2.St} {E : Env} (h : EDen K ia H s E) : EDen K ia' H' s E := L2.Paired.mapP h fun _ _ r => r.ext x
/-- where the object at a stands as it stood -/
theorem ORel.keep (x : Ext ia H ia' H') {a : Addr} {o : O} (e : H' a = H a) (h : ORel g ia H a o) : ORel g ia' H' a o := by
  cases o with
  | lst xs => obtain ⟨vs, h1, h2⟩ := h; exact ⟨vs, e.trans h1, h2.ext x⟩
  | frz xs => obtain ⟨vs, o, h1, h2⟩ := h; exact ⟨vs, o, e.trans h1, h2.ext x⟩
  | dic kvs => obtain ⟨vs, h1, h2⟩ := h; exact ⟨vs, e.trans h1, L2.Paired.mapP h2 fun _ _ r => r.ext x⟩
  | lck kvs => obtain ⟨o, vs, h1, h2⟩ := h; exact ⟨o, vs, e.trans h1, L2.Paired.mapP h2 fun _ _ r => r.ext x⟩
  | ins c fs => obtain ⟨C, dx, vs, h0, h1, h2⟩ := h; exact ⟨C, dx, vs, h0, e.trans h1, L2.Paired.mapP h2 fun _ _ r => r.ext x⟩
/-- every object of the store is tracked -/
theorem ORel.there {a : Addr} {o : O} (h : ORel g ia H a o) : ∃ u, H a = some u := by
  cases o with
  | lst xs => obtain ⟨vs, h1, h2⟩ := h; exact ⟨_, h1⟩
  | frz xs => obtain ⟨vs, o, h1, h2⟩ := h; exact ⟨_, h1⟩
  | dic kvs => obtain ⟨vs, h1, h2⟩ := h; exact ⟨_, h1⟩
  | lck kvs => obtain ⟨o, vs, h1, h2⟩ := h; exact ⟨_, h1⟩
  | ins c fs => obtain ⟨C, dx, vs, h0, h1, h2⟩ := h; exact ⟨_, h1⟩
theorem Abs.at (A : Abs g ia H S) {n : Nat} {o : O} (h : S[n]? = some o) : ∃ a, ia[n]? = some a ∧ ORel g ia H a o := by
  have hl := (List.getElem?_eq_some_iff.mp h).1
  rw [← A.len] at hl
  exact ⟨ia[n], by simp [hl], A.obj n _ o (by simp [hl]) h⟩
theorem Abs.ref (A : Abs g ia H S) {n : Nat} {a : Addr} (h : ia[n]? = some a) : ∃ o, S[n]? = some o := by
  have hl := (List.getElem?_eq_some_iff.mp h).1
  rw [A.len] at hl
  exact ⟨S[n], by simp [hl]⟩
theorem Abs.obj' (A : Abs g ia H S) {n : Nat} {a : Addr} {o : O} (h : ia[n]? = some a) (e : S[n]? = some o) : ORel g ia H a o := A.obj n a o h e
/-- a new object that the store does not know (a tuple, the dict of an instance) -/
theorem Ext.new {p : Addr} {ho : HO} (hp : H p = none) : Ext ia H ia (upd H p ho) := by
  refine ⟨⟨[], by simp⟩, fun a xs h => ?_, fun a o u h => ?_⟩
  · rw [upd_ne (ne_of_none h hp)]; exact h
  · rw [upd_ne (ne_of_none h hp)]; exact h
theorem Abs.off (A : Abs g ia H S) {p : Addr} {ho : HO} (hp : H p = none) : Abs g ia (upd H p ho) S := by
  refine ⟨A.len, A.nd, fun n a o h e => ?_⟩
  have r := A.obj n a o h e
  obtain ⟨u, hu⟩ := r.there
  exact r.keep (Ext.new hp) (upd_ne (ne_of_none hu hp))
/-- a new object of the store -/
theorem Abs.push (A : Abs g ia H S) {p : Addr} {ho : HO} {o : O} (hp : H p = none) (r : ∀ ia' H', Ext ia H ia' H' → H' p = some ho → ORel g ia' H' p o) :
    Abs g (ia ++ [p]) (upd H p ho) (S ++ [o]) ∧ Ext ia H (ia ++ [p]) (upd H p ho) := by
  have x : Ext ia H (ia ++ [p]) (upd H p ho) := ⟨⟨[p], rfl⟩, (Ext.new (ia := ia) hp).tup, (Ext.new (ia := ia) hp).frz⟩
  refine ⟨⟨by simp [A.len], ?_, fun n a o' h e => ?_⟩, x⟩
  · rw [List.nodup_append]
    refine ⟨A.nd, by simp, fun a ha b hb => ?_⟩
    rw [List.mem_singleton.mp hb]
    rintro rfl
    obtain ⟨n, hn⟩ := List.getElem?_of_mem ha
    obtain ⟨o', ho'⟩ := A.ref hn
    obtain ⟨u, hu⟩ := (A.obj n _ o' hn ho').there
    rw [hp] at hu; cases hu
  · by_cases hl : n < ia.length
    · rw [List.getElem?_append_left hl] at h
      rw [List.getElem?_append_left (by rw [← A.len]; exact hl)] at e
      have r' := A.obj n a o' h e
      obtain ⟨u, hu⟩ := r'.there
      exact r'.keep x (upd_ne (ne_of_none hu hp))
    · have hn : n = ia.length := by
        have := (List.getElem?_eq_some_iff.mp h).1
        simp at this; omega
      subst hn
      rw [List.getElem?_append_right (Nat.le_refl _)] at h
      rw [A.len, List.getElem?_append_right (Nat.le_refl _)] at e
      simp at h e
      subst h e
      exact r _ _ x upd_same
/-- an object of the store changes -/
theorem Ext.chg {p : Addr} {ho : HO} {u : HO} (hp : H p = some u) (h1 : ∀ xs, u ≠ .tup xs) (h2 : ∀ o v, u ≠ .frz o v) : Ext ia H ia (upd H p ho) := by
  refine ⟨⟨[], by simp⟩, fun a xs h => ?_, fun a o v h => ?_⟩
  · rw [upd_ne (ne_of h hp fun e => h1 xs e.symm)]; exact h
  · rw [upd_ne (ne_of h hp fun e => h2 o v e.symm)]; exact h
theorem Abs.set (A : Abs g ia H S) {n : Nat} {p : Addr} {ho u : HO} {o : O} (hn : ia[n]? = some p) (hp : H p = some u) (h1 : ∀ xs, u ≠ .tup xs) (h2 : ∀ o v, u ≠ .frz o v)
    (r : ORel g ia (upd H p ho) p o) : Abs g ia (upd H p ho) (S.set n o) := by
  refine ⟨by simp [A.len], A.nd, fun m a o' h e => ?_⟩
  by_cases hm : m = n
  · subst hm
    rw [hn] at h
    have e1 : p = a := Option.some.inj h
    subst e1
    have hl : m < S.length := by
      have := (List.getElem?_eq_some_iff.mp hn).1
      rw [A.len] at this; exact this
    rw [List.getElem?_set_self hl] at e
    have e2 : o = o' := Option.some.inj e
    subst e2
    exact r
  · rw [List.getElem?_set_ne (Ne.symm hm)] at e
    have ha : a ≠ p := by
      rintro rfl
      exact hm (L2.nd_ix A.nd h hn)
    exact (A.obj m a o' h e).keep (Ext.chg hp h1 h2) (upd_ne ha)
end
end DL
end OfDL1

section OfDL2
set_option Elab.async false
set_option linter.all false
set_option maxRecDepth 100000
/-! DL2: results, judgements, names, constants, operators, tests, calls, statements -/
namespace DL
open PySem PySem.Spec PyProof.Rows L2

/-- an exception: its class, its fields -/
structure Xn where
  cls : Nat
  fs : List (Nat × D)
inductive R (α : Type) where
  | ok (a : α) (S : Sto)
  | err (x : Xn) (S : Sto)
  | bad
@[reducible] def R.bind {α β : Type} (r : R α) (f : α → Sto → R β) : R β := match r with
  | .ok a S => f a S
  | .err x S => .err x S
  | .bad => .bad
inductive RS where
  | nx (E : Env) (S : Sto)
  | rt (d : D) (S : Sto)
  | bk (E : Env) (S : Sto)
  | ct (E : Env) (S : Sto)
  | er (x : Xn) (E : Env) (S : Sto)
  | bad
abbrev EF := Env → Sto → R D
abbrev TF := Env → Sto → R Bool
abbrev AF := Env → Sto → R (List D)
abbrev SF := Env → Sto → RS

/-- an exception as HandS tells it -/
def XRel (g : G) (ia : List Addr) (H : Hp) (x : Xn) (c : Value) (dd : Option Addr) : Prop :=
  ∃ C, g.cls[x.cls]? = some C ∧ c = .ref C ∧ (x.fs = [] ∨ ∃ d vs, dd = some d ∧ H d = some (.xd vs) ∧ ∀ f v, x.fs.lookup f = some v → ∃ nm u, g.fn[f]? = some nm ∧ vs.lookup nm = some u ∧ Den g.K ia H u v)
/-- what is wanted of a result: Q of its value, W of its exception -/
def Post {α β : Type} (g : G) (ia : List Addr) (H : Hp) (W : XK) (rel : List Addr → Hp → β → α → Prop) (r : R α) (Q : β → Hp → Prop) : Prop := match r with
  | .ok a S' => ∀ ia' H' v, Ext ia H ia' H' → Abs g ia' H' S' → rel ia' H' v a → Q v H'
  | .err x S' => ∀ ia' H' c d, Ext ia H ia' H' → Abs g ia' H' S' → XRel g ia' H' x c d → W c d H'
  | .bad => False
abbrev relD (g : G) : List Addr → Hp → V → D → Prop := fun ia H v d => Den g.K ia H v d
abbrev relL (g : G) : List Addr → Hp → List V → List D → Prop := fun ia H v d => Dens g.K ia H v d
abbrev relB : List Addr → Hp → Bool → Bool → Prop := fun _ _ v d => v = d
def tD (g : G) (W : WX) (f : EF) : TE := fun σ H Q => ∃ ia E S, Abs g ia H S ∧ EDen g.K ia H σ E ∧ Post g ia H (fun c d H' => W c d σ H') (relD g) (f E S) Q
def tT (g : G) (W : WX) (f : TF) : TT := fun σ H Q => ∃ ia E S, Abs g ia H S ∧ EDen g.K ia H σ E ∧ Post g ia H (fun c d H' => W c d σ H') relB (f E S) Q
def tA (g : G) (W : WX) (f : AF) : TA := fun σ H Q => ∃ ia E S, Abs g ia H S ∧ EDen g.K ia H σ E ∧ Post g ia H (fun c d H' => W c d σ H') (relL g) (f E S) Q
def PostS (g : G) (ia : List Addr) (H : Hp) (W : WX) (r : RS) (Dn : Ends) : Prop := match r with
  | .nx E' S' => ∀ ia' H' σ', Ext ia H ia' H' → Abs g ia' H' S' → EDen g.K ia' H' σ' E' → Dn.nx σ' H'
  | .rt d S' => ∀ ia' H' v, Ext ia H ia' H' → Abs g ia' H' S' → Den g.K ia' H' v d → Dn.rt v H'
  | .bk E' S' => ∀ ia' H' σ', Ext ia H ia' H' → Abs g ia' H' S' → EDen g.K ia' H' σ' E' → Dn.bk σ' H'
  | .ct E' S' => ∀ ia' H' σ', Ext ia H ia' H' → Abs g ia' H' S' → EDen g.K ia' H' σ' E' → Dn.ct σ' H'
  | .er x E' S' => ∀ ia' H' σ' c d, Ext ia H ia' H' → Abs g ia' H' S' → EDen g.K ia' H' σ' E' → XRel g ia' H' x c d → W c d σ' H'
  | .bad => False
def tS (g : G) (W : WX) (f : SF) : TS := fun Dn σ H => ∃ ia E S, Abs g ia H S ∧ EDen g.K ia H σ E ∧ PostS g ia H W (f E S) Dn

/-- where code stands -/
structure Ctx (g : G) (lv : Nat) (X : Cx) (W : WX) : Prop where
  K : X.K = g.K
  tk : Takes X W
  calm : X.calm = true
  room : Room lv X.A
theorem Ctx.hu {g : G} {lv : Nat} {X : Cx} {W : WX} (c : Ctx g lv X W) : X.A.units + 100 < cLine := by have := c.room.un; omega
structure DE (g : G) (lv : Nat) (X : Cx) (W : WX) (e : Expr) (f : EF) : Prop where run : Ctx g lv X W → PE X e (tD g W f)
structure DT (g : G) (lv : Nat) (X : Cx) (W : WX) (e : Expr) (f : TF) : Prop where run : Ctx g lv X W → PT X e (tT g W f)
structure DA (g : G) (lv : Nat) (X : Cx) (W : WX) (es : List Expr) (f : AF) : Prop where run : Ctx g lv X W → PA X es (tA g W f)
structure DS (g : G) (lv : Nat) (X : Cx) (W : WX) (s : Stmt) (f : SF) : Prop where run : Ctx g lv X W → PS X s (tS g W f)
structure DSs (g : G) (lv : Nat) (X : Cx) (W : WX) (s : List Stmt) (f : SF) : Prop where run : Ctx g lv X W → PSs X s (tS g W f)

theorem _root_.L2.PE.wk {X : Cx} {e : Expr} {t t' : TE} (h : PE X e t) (i : ∀ σ H Q, t' σ H Q → t σ H Q) : PE X e t' := ⟨fun pins s σ H Q I q => h.run pins s σ H Q I (i σ H Q q)⟩
theorem _root_.L2.PT.wk {X : Cx} {e : Expr} {t t' : TT} (h : PT X e t) (i : ∀ σ H Q, t' σ H Q → t σ H Q) : PT X e t' := ⟨fun pins s σ H Q I q => h.run pins s σ H Q I (i σ H Q q)⟩
theorem _root_.L2.PW.wk {X : Cx} {e : Expr} {t t' : TT} (h : PW X e t) (i : ∀ σ H Q, t' σ H Q → t σ H Q) : PW X e t' := ⟨fun wh pins s σ H Q I q => h.run wh pins s σ H Q I (i σ H Q q)⟩
theorem _root_.L2.PA.wk {X : Cx} {e : List Expr} {t t' : TA} (h : PA X e t) (i : ∀ σ H Q, t' σ H Q → t σ H Q) : PA X e t' := ⟨fun pos pins s σ H Q I q => h.run pos pins s σ H Q I (i σ H Q q)⟩
theorem _root_.L2.PS.wk {X : Cx} {e : Stmt} {t t' : TS} (h : PS X e t) (i : ∀ D σ H, t' D σ H → t D σ H) : PS X e t' := ⟨fun pins s σ H D I q => h.run pins s σ H D I (i D σ H q)⟩
theorem _root_.L2.PSs.wk {X : Cx} {e : List Stmt} {t t' : TS} (h : PSs X e t) (i : ∀ D σ H, t' D σ H → t D σ H) : PSs X e t' := ⟨fun pins s σ H D I q => h.run pins s σ H D I (i D σ H q)⟩

section
variable {g : G} {ia ia1 : List Addr} {H H1 : Hp} {W : XK} {α β : Type} {rel : List Addr → Hp → β → α → Prop} {S : Sto}
/-- the same result, seen from a later state -/
theorem Post.later {r : R α} {Q : β → Hp → Prop} (x : Ext ia H ia1 H1) (h : Post g ia H W rel r Q) : Post g ia1 H1 W rel r Q := by
  cases r with
  | ok a S' => exact fun ia' H' v x' A r' => h ia' H' v (x.trans x') A r'
  | err a S' => exact fun ia' H' c d x' A r' => h ia' H' c d (x.trans x') A r'
  | bad => exact h
theorem Post.mono {r : R α} {Q Q' : β → Hp → Prop} {W' : XK} (h : Post g ia H W rel r Q) (hQ : ∀ v H', Q v H' → Q' v H') (hW : ∀ c d H', W c d H' → W' c d H') : Post g ia H W' rel r Q' := by
  cases r with
  | ok a S' => exact fun ia' H' v x' A r' => hQ _ _ (h ia' H' v x' A r')
  | err a S' => exact fun ia' H' c d x' A r' => hW _ _ _ (h ia' H' c d x' A r')
  | bad => exact h
/-- first one, then the other -/
theorem Post.bind {γ δ : Type} {rel2 : List Addr → Hp → δ → γ → Prop} {r : R α} {f : α → Sto → R γ} {Q : δ → Hp → Prop} (h : Post g ia H W rel2 (r.bind f) Q) :
    Post g ia H W rel r (fun v H' => ∃ ia' a S', Ext ia H ia' H' ∧ Abs g ia' H' S' ∧ rel ia' H' v a ∧ Post g ia' H' W rel2 (f a S') Q) := by
  cases r with
  | ok a S' => exact fun ia' H' v x' A r' => ⟨ia', a, S', x', A, r', Post.later x' h⟩
  | err a S' => exact h
  | bad => exact h
end

/-! ### names and constants -/
def eVar (i : Nat) : EF := fun E S => match E[i]? with
  | some (some d) => .ok d S
  | _ => .bad
def eC (d : D) : EF := fun _ S => .ok d S
theorem EDen.get {K : PySem.W.Frag} {ia : List Addr} {H : Hp} : ∀ {σ : L2.St} {E : Env} {i : Nat} {d : D}, EDen K ia H σ E → E[i]? = some (some d) → ∃ v, σ[i]? = some (some v) ∧ Den K ia H v d
  | _, _, _, _, .nil, e => by simp at e
  | _, _, 0, _, .cons r _, e => by
    simp at e; subst e
    cases r with
    | some r => exact ⟨_, rfl, r⟩
  | _, _, i + 1, x, .cons _ t, e => by
    obtain ⟨u, h1, h2⟩ := EDen.get (i := i) (d := x) t (by simpa using e)
    exact ⟨u, by simpa using h1, h2⟩
theorem EDen.set {K : PySem.W.Frag} {ia : List Addr} {H : Hp} {v : Option V} {d : Option D} (r : ODen K ia H v d) : ∀ {σ : L2.St} {E : Env} (i : Nat), EDen K ia H σ E → EDen K ia H (σ.set i v) (E.set i d)
  | _, _, _, .nil => .nil
  | _, _, 0, .cons _ t => .cons r t
  | _, _, i + 1, .cons q t => .cons q (EDen.set r i t)
section
variable {g : G} {lv : Nat} {X : Cx} {W : WX} {pos : Pos}
theorem de_var (i : Nat) {x : Str} (hN : X.N[i]? = some x := by rfl) (hv : Vis X.env.scope x := by first | exact Or.inl rfl | exact Or.inr (Or.inl rfl) | exact Or.inr (Or.inr rfl)) (hd : (x == ("__debug__" : Str)) = false := by decide)
    (hcd : (x == ("__classdict__" : Str)) = false := by decide) : DE g lv X W (.Name x pos) (eVar i) := ⟨fun c => (pe_var hN hv hd hcd).wk fun σ H Q h => by
  obtain ⟨ia, E, S, A, e, h⟩ := h
  unfold eVar at h
  split at h
  · rename_i d hd
    obtain ⟨v, h1, h2⟩ := e.get hd
    exact ⟨v, h1, h ia H v .refl A h2⟩
  · exact h.elim⟩
theorem de_c {e : Expr} {v : V} {d : D} (h : PE X e (tC v)) (r : ∀ ia H, Den g.K ia H v d) : DE g lv X W e (eC d) := ⟨fun c => h.wk fun σ H Q h => by
  obtain ⟨ia, E, S, A, e, h⟩ := h
  exact h ia H v .refl A (r ia H)⟩
theorem de_int {i : Int} {j pos} : DE g lv X W (.Constant (.int i) j pos) (eC (.int i)) := de_c pe_int fun _ _ => .int i
theorem de_bl {b : Bool} {j pos} : DE g lv X W (.Constant (.bool b) j pos) (eC (.bl b)) := de_c pe_bl fun _ _ => .bl b
theorem de_non {j pos} : DE g lv X W (.Constant .none j pos) (eC .non) := de_c pe_non fun _ _ => .non
theorem de_str {x : Str} {j pos} (l : List Nat) (h : x = T l := by rfl) : DE g lv X W (.Constant (.str x) j pos) (eC (.str l)) := by
  subst h
  exact de_c pe_str fun _ _ => .str l
/-- a module's constant -/
theorem de_glob {x : Str} {v : V} {u : Value} {d : D} (hm : X.mg x = some u) (r : RelV v u) (rd : ∀ ia H, Den g.K ia H v d) (hg : Gl X x := by rfl) (hd : (x == ("__debug__" : Str)) = false := by decide) : DE g lv X W (.Name x pos) (eC d) :=
  de_c (pe_glob hg hm r hd) rd

/-! ### two operands -/
def e2 (o : D → D → Sto → R D) (f k : EF) : EF := fun E S => (f E S).bind fun a S1 => (k E S1).bind fun b S2 => o a b S2
def e1 (o : D → Sto → R D) (f : EF) : EF := fun E S => (f E S).bind fun a S1 => o a S1
/-- o is what r wants, by values -/
def Op2 (g : G) (r : R2) (o : D → D → Sto → R D) : Prop := ∀ (ia : List Addr) (H : Hp) (S : Sto) (v w : V) (a b : D) (Q : VK) (W : XK), Abs g ia H S → Den g.K ia H v a → Den g.K ia H w b → Post g ia H W (relD g) (o a b S) Q → r v w H Q
def Op1 (g : G) (r : V → Hp → VK → Prop) (o : D → Sto → R D) : Prop := ∀ (ia : List Addr) (H : Hp) (S : Sto) (v : V) (a : D) (Q : VK) (W : XK), Abs g ia H S → Den g.K ia H v a → Post g ia H W (relD g) (o a S) Q → r v H Q
theorem two {r : R2} {o : D → D → Sto → R D} {f k : EF} (h : Op2 g r o) {σ : L2.St} {H : Hp} {Q : VK} (q : tD g W (e2 o f k) σ H Q) : tOp r (tD g W f) (tD g W k) σ H Q := by
  obtain ⟨ia, E, S, A, e, p⟩ := q
  refine ⟨ia, E, S, A, e, (Post.bind (rel := relD g) p).mono (fun v H1 h1 => ?_) fun _ _ _ h => h⟩
  obtain ⟨ia1, a, S1, x1, A1, ra, p1⟩ := h1
  refine ⟨ia1, E, S1, A1, e.ext x1, (Post.bind (rel := relD g) p1).mono (fun w H2 h2 => ?_) fun _ _ _ h => h⟩
  obtain ⟨ia2, b, S2, x2, A2, rb, p2⟩ := h2
  exact h ia2 H2 S2 v w a b Q _ A2 (ra.ext x2) rb p2
theorem one {r : V → Hp → VK → Prop} {o : D → Sto → R D} {f : EF} (h : Op1 g r o) {σ : L2.St} {H : Hp} {Q : VK} (q : tD g W (e1 o f) σ H Q) : tUn r (tD g W f) σ H Q := by
  obtain ⟨ia, E, S, A, e, p⟩ := q
  refine ⟨ia, E, S, A, e, (Post.bind (rel := relD g) p).mono (fun v H1 h1 => ?_) fun _ _ _ h => h⟩
  obtain ⟨ia1, a, S1, x1, A1, ra, p1⟩ := h1
  exact h ia1 H1 S1 v a Q _ A1 ra p1
variable {a b e : Expr} {f k : EF}
theorem de_bin {op : Operator} {r : R2} {o : D → D → Sto → R D} (ho : Ctx g lv X W → OpR X (binaryOp op) r) (h : Op2 g r o) (ha : DE g lv X W a f) (hb : DE g lv X W b k) : DE g lv X W (.BinOp a op b pos) (e2 o f k) :=
  ⟨fun c => (pe_op (ho c) (ha.run c) (hb.run c)).wk fun _ _ _ q => two h q⟩
theorem de_un {op : UnaryOp} {r : V → Hp → VK → Prop} {o : D → Sto → R D} (ho : Ctx g lv X W → UnR X (unaryOp op) r) (h : Op1 g r o) (ha : DE g lv X W a f) : DE g lv X W (.UnaryOp op a pos) (e1 o f) :=
  ⟨fun c => (pe_un (ho c) (ha.run c)).wk fun _ _ _ q => one h q⟩
theorem de_cmp {op : CmpOp} {r : R2} {o : D → D → Sto → R D} (ho : Ctx g lv X W → OpR X (compareOp op) r) (h : Op2 g r o) (ha : DE g lv X W a f) (hb : DE g lv X W b k) (hm : behindInMarks op b = false := by first | exact nomark _ | rfl) : DE g lv X W (.Compare a [op] [b] pos) (e2 o f k) :=
  ⟨fun c => (pe_cmpR (ho c) (ha.run c) (hb.run c) hm).wk fun _ _ _ q => two h q⟩
/-- a value that is a truth -/
def tOfE (f : EF) : TF := fun E S => (f E S).bind fun d S1 => match d with
  | .bl b => .ok b S1
  | _ => .bad
theorem toBool {σ : L2.St} {H : Hp} {Q : Bool → Hp → Prop} (q : tT g W (tOfE f) σ H Q) : tD g W f σ H fun x H' => ∃ k, x = .bl k ∧ Q k H' := by
  obtain ⟨ia, E, S, A, e, p⟩ := q
  refine ⟨ia, E, S, A, e, (Post.bind (rel := relD g) p).mono (fun v H1 h1 => ?_) fun _ _ _ h => h⟩
  obtain ⟨ia1, d, S1, x1, A1, ra, p1⟩ := h1
  cases ra with
  | bl k => exact ⟨k, rfl, p1 ia1 H1 k .refl A1 rfl⟩
  | _ => exact p1.elim
theorem dt_val (h : DE g lv X W e f) (he : ∀ whole, isTrue e X.env whole = (do let v ← whole; standAt e.pos; holding [v] (truthy v)) := by intro _; rfl) : DT g lv X W e (tOfE f) :=
  ⟨fun c => (pt_val (h.run c) he).wk fun _ _ _ q => toBool q⟩
theorem dt_cmp {op : CmpOp} {r : R2} {o : D → D → Sto → R D} (ho : Ctx g lv X W → OpR X (compareOp op) r) (h : Op2 g r o) (ha : DE g lv X W a f) (hb : DE g lv X W b k) (hm : behindInMarks op b = false := by first | exact nomark _ | rfl) : DT g lv X W (.Compare a [op] [b] pos) (tOfE (e2 o f k)) :=
  ⟨fun c => (pt_cmpR (ho c) (ha.run c) (hb.run c) hm).wk fun σ H Q q => two h (toBool q)⟩
/-! ### and, or, not, if .. else -/
structure DW (g : G) (lv : Nat) (X : Cx) (W : WX) (e : Expr) (f : TF) : Prop where run : Ctx g lv X W → PW X e (tT g W f)
def tAndF (f k : TF) : TF := fun E S => (f E S).bind fun b S1 => if b = true then k E S1 else .ok false S1
def tOrF (f k : TF) : TF := fun E S => (f E S).bind fun b S1 => if b = true then .ok true S1 else k E S1
def tNotF (f : TF) : TF := fun E S => (f E S).bind fun b S1 => .ok (!b) S1
variable {p q : TF} {rest : List Expr}
theorem DW.dt (h : DW g lv X W e p) : DT g lv X W e p := ⟨fun c => (h.run c).pt⟩
theorem dw_and1 (ha : DT g lv X W a p) : DW g lv X W (.BoolOp .And [a] pos) p := ⟨fun c => pw_and1 (ha.run c)⟩
theorem dw_or1 (ha : DT g lv X W a p) : DW g lv X W (.BoolOp .Or [a] pos) p := ⟨fun c => pw_or1 (ha.run c)⟩
theorem dw_and (ha : DT g lv X W a p) (hb : DW g lv X W (.BoolOp .And (b :: rest) pos) q) : DW g lv X W (.BoolOp .And (a :: b :: rest) pos) (tAndF p q) :=
  ⟨fun c => (pw_and (ha.run c) (hb.run c)).wk fun σ H Q h => by
    obtain ⟨ia, E, S, A, e, h⟩ := h
    refine ⟨ia, E, S, A, e, (Post.bind (rel := relB) h).mono (fun v H1 h1 => ?_) fun _ _ _ h => h⟩
    obtain ⟨ia1, d, S1, x1, A1, rfl, p1⟩ := h1
    by_cases hv : v = true
    · rw [if_pos hv] at p1 ⊢
      exact ⟨ia1, E, S1, A1, e.ext x1, p1⟩
    · rw [if_neg hv] at p1 ⊢
      exact p1 ia1 H1 false .refl A1 rfl⟩
theorem dw_or (ha : DT g lv X W a p) (hb : DW g lv X W (.BoolOp .Or (b :: rest) pos) q) : DW g lv X W (.BoolOp .Or (a :: b :: rest) pos) (tOrF p q) :=
  ⟨fun c => (pw_or (ha.run c) (hb.run c)).wk fun σ H Q h => by
    obtain ⟨ia, E, S, A, e, h⟩ := h
    refine ⟨ia, E, S, A, e, (Post.bind (rel := relB) h).mono (fun v H1 h1 => ?_) fun _ _ _ h => h⟩
    obtain ⟨ia1, d, S1, x1, A1, rfl, p1⟩ := h1
    by_cases hv : v = true
    · rw [if_pos hv] at p1 ⊢
      exact p1 ia1 H1 true .refl A1 rfl
    · rw [if_neg hv] at p1 ⊢
      exact ⟨ia1, E, S1, A1, e.ext x1, p1⟩⟩
theorem dt_not (ha : DT g lv X W a p) : DT g lv X W (.UnaryOp .Not a pos) (tNotF p) :=
  ⟨fun c => (pt_not (ha.run c)).wk fun σ H Q h => by
    obtain ⟨ia, E, S, A, e, h⟩ := h
    refine ⟨ia, E, S, A, e, (Post.bind (rel := relB) h).mono (fun v H1 h1 => ?_) fun _ _ _ h => h⟩
    obtain ⟨ia1, d, S1, x1, A1, rfl, p1⟩ := h1
    exact p1 ia1 H1 _ .refl A1 rfl⟩
/-- .. as values: bools -/
def eAnd (f k : EF) : EF := fun E S => (f E S).bind fun d S1 => match d with
  | .bl true => k E S1
  | .bl false => .ok (.bl false) S1
  | _ => .bad
def eOr (f k : EF) : EF := fun E S => (f E S).bind fun d S1 => match d with
  | .bl true => .ok (.bl true) S1
  | .bl false => k E S1
  | _ => .bad
def eNot (f : EF) : EF := fun E S => (f E S).bind fun d S1 => match d with
  | .bl b => .ok (.bl (!b)) S1
  | _ => .bad
theorem de_one {op} (h : DE g lv X W a f) : DE g lv X W (.BoolOp op [a] pos) f := ⟨fun c => pe_one (h.run c)⟩
theorem de_and (ha : DE g lv X W a f) (hb : DE g lv X W (.BoolOp .And (b :: rest) pos) k) : DE g lv X W (.BoolOp .And (a :: b :: rest) pos) (eAnd f k) :=
  ⟨fun c => (pe_and (ha.run c) (hb.run c)).wk fun σ H Q h => by
    obtain ⟨ia, E, S, A, e, h⟩ := h
    refine ⟨ia, E, S, A, e, (Post.bind (rel := relD g) h).mono (fun v H1 h1 => ?_) fun _ _ _ h => h⟩
    obtain ⟨ia1, d, S1, x1, A1, ra, p1⟩ := h1
    cases ra with
    | bl k =>
      refine ⟨k, rfl, ?_⟩
      cases k with
      | true => rw [if_pos rfl]; exact ⟨ia1, E, S1, A1, e.ext x1, p1⟩
      | false => rw [if_neg (by simp)]; exact p1 ia1 H1 _ .refl A1 (.bl false)
    | _ => exact p1.elim⟩
theorem de_or (ha : DE g lv X W a f) (hb : DE g lv X W (.BoolOp .Or (b :: rest) pos) k) : DE g lv X W (.BoolOp .Or (a :: b :: rest) pos) (eOr f k) :=
  ⟨fun c => (pe_or (ha.run c) (hb.run c)).wk fun σ H Q h => by
    obtain ⟨ia, E, S, A, e, h⟩ := h
    refine ⟨ia, E, S, A, e, (Post.bind (rel := relD g) h).mono (fun v H1 h1 => ?_) fun _ _ _ h => h⟩
    obtain ⟨ia1, d, S1, x1, A1, ra, p1⟩ := h1
    cases ra with
    | bl k =>
      refine ⟨k, rfl, ?_⟩
      cases k with
      | true => rw [if_pos rfl]; exact p1 ia1 H1 _ .refl A1 (.bl true)
      | false => rw [if_neg (by simp)]; exact ⟨ia1, E, S1, A1, e.ext x1, p1⟩
    | _ => exact p1.elim⟩
theorem de_not (ha : DE g lv X W a f) : DE g lv X W (.UnaryOp .Not a pos) (eNot f) :=
  ⟨fun c => (pe_not (ha.run c)).wk fun σ H Q h => by
    obtain ⟨ia, E, S, A, e, h⟩ := h
    refine ⟨ia, E, S, A, e, (Post.bind (rel := relD g) h).mono (fun v H1 h1 => ?_) fun _ _ _ h => h⟩
    obtain ⟨ia1, d, S1, x1, A1, ra, p1⟩ := h1
    cases ra with
    | bl k => exact ⟨k, rfl, p1 ia1 H1 _ .refl A1 (.bl _)⟩
    | _ => exact p1.elim⟩
def eIf (p : TF) (f k : EF) : EF := fun E S => (p E S).bind fun b S1 => if b = true then f E S1 else k E S1
theorem de_ifExp {cnd : Expr} (hc : DT g lv X W cnd p) (ha : DE g lv X W a f) (hb : DE g lv X W b k) : DE g lv X W (.IfExp cnd a b pos) (eIf p f k) :=
  ⟨fun c => (pe_ifExp (hc.run c) (ha.run c) (hb.run c)).wk fun σ H Q h => by
    obtain ⟨ia, E, S, A, e, h⟩ := h
    refine ⟨ia, E, S, A, e, (Post.bind (rel := relB) h).mono (fun v H1 h1 => ?_) fun _ _ _ h => h⟩
    obtain ⟨ia1, d, S1, x1, A1, rfl, p1⟩ := h1
    by_cases hv : v = true
    · rw [if_pos hv] at p1 ⊢
      exact ⟨ia1, E, S1, A1, e.ext x1, p1⟩
    · rw [if_neg hv] at p1 ⊢
      exact ⟨ia1, E, S1, A1, e.ext x1, p1⟩⟩

/-! ### argument lists, tuples, lists -/
def aNil : AF := fun _ S => .ok [] S
def aCons (f : EF) (k : AF) : AF := fun E S => (f E S).bind fun d S1 => (k E S1).bind fun ds S2 => .ok (d :: ds) S2
variable {es : List Expr} {u : AF}
theorem da_nil : DA g lv X W [] aNil := ⟨fun c => pa_nil.wk fun σ H Q h => by
  obtain ⟨ia, E, S, A, e, h⟩ := h
  exact h ia H [] .refl A .nil⟩
theorem da_cons (ha : DE g lv X W e f) (hr : DA g lv X W es u) (hs : starEach (e :: es) X.env = (false, eval e X.env) :: starEach es X.env := by rfl) : DA g lv X W (e :: es) (aCons f u) :=
  ⟨fun c => (pa_cons (ha.run c) (hr.run c) hs).wk fun σ H Q h => by
    obtain ⟨ia, E, S, A, e, h⟩ := h
    refine ⟨ia, E, S, A, e, (Post.bind (rel := relD g) h).mono (fun v H1 h1 => ?_) fun _ _ _ h => h⟩
    obtain ⟨ia1, d, S1, x1, A1, ra, p1⟩ := h1
    refine ⟨ia1, E, S1, A1, e.ext x1, (Post.bind (rel := relL g) p1).mono (fun w H2 h2 => ?_) fun _ _ _ h => h⟩
    obtain ⟨ia2, ds, S2, x2, A2, rb, p2⟩ := h2
    exact p2 ia2 H2 _ .refl A2 (.cons (ra.ext x2) rb)⟩
abbrev LINE : Nat := 16777216
theorem LINE_le {n : Nat} (h : n ≤ LINE) : n ≤ sizeLine := by rw [sizeLine_eq]; exact h
theorem LINE_lt {n : Nat} (h : n < LINE) : n < sizeLine := by rw [sizeLine_eq]; exact h
def eTup (u : AF) : EF := fun E S => (u E S).bind fun ds S1 => if ds.length ≤ LINE then .ok (.tup ds) S1 else .bad
def eLst (u : AF) : EF := fun E S => (u E S).bind fun ds S1 => if ds.length ≤ LINE then .ok (.ref S1.length) (S1 ++ [.lst ds]) else .bad
/-- a new tuple -/
theorem Post.tup {ia : List Addr} {H : Hp} {S : Sto} {vs : List V} {ds : List D} {Q : VK} {W : XK} (A : Abs g ia H S) (r : Dens g.K ia H vs ds) (h : Post g ia H W (relD g) (.ok (.tup ds) S) Q) : ∀ p, H p = none → Q (.ref p) (upd H p (.tup vs)) := fun p hp =>
  h ia _ _ (Ext.new hp) (A.off hp) (.tup (SqT.of upd_same) (r.ext (Ext.new hp)))
/-- a new object of the store -/
theorem Post.new {ia : List Addr} {H : Hp} {S : Sto} {ho : HO} {o : O} {Q : VK} {W : XK} (A : Abs g ia H S) (r : ∀ p ia' H', Ext ia H ia' H' → H' p = some ho → ORel g ia' H' p o) (h : Post g ia H W (relD g) (.ok (.ref S.length) (S ++ [o])) Q) :
    ∀ p, H p = none → Q (.ref p) (upd H p ho) := fun p hp => by
  obtain ⟨A', x⟩ := A.push hp (r p)
  exact h _ _ _ x A' (.ref (by rw [← A.len]; simp))
theorem ORel.lst {ia : List Addr} {H : Hp} {vs : List V} {ds : List D} (r : Dens g.K ia H vs ds) : ∀ p ia' H', Ext ia H ia' H' → H' p = some (.lst vs) → ORel g ia' H' p (.lst ds) := fun _ _ _ x e => ⟨vs, e, r.ext x⟩
theorem de_tup {x1} (h : DA g lv X W es u) : DE g lv X W (.Tuple es x1 pos) (eTup u) :=
  ⟨fun c => (pe_tup (h.run c)).wk fun σ H Q h => by
    obtain ⟨ia, E, S, A, e, h⟩ := h
    refine ⟨ia, E, S, A, e, (Post.bind (rel := relL g) h).mono (fun v H1 h1 => ?_) fun _ _ _ h => h⟩
    obtain ⟨ia1, ds, S1, x1, A1, ra, p1⟩ := h1
    by_cases hl : ds.length ≤ LINE
    · rw [if_pos hl] at p1
      exact ⟨by rw [ra.length]; exact LINE_le hl, Post.tup A1 ra p1⟩
    · rw [if_neg hl] at p1; exact p1.elim⟩
theorem de_lst (h : DA g lv X W es u) : DE g lv X W (.List es pos) (eLst u) :=
  ⟨fun c => (pe_lst (h.run c)).wk fun σ H Q h => by
    obtain ⟨ia, E, S, A, e, h⟩ := h
    refine ⟨ia, E, S, A, e, (Post.bind (rel := relL g) h).mono (fun v H1 h1 => ?_) fun _ _ _ h => h⟩
    obtain ⟨ia1, ds, S1, x1, A1, ra, p1⟩ := h1
    by_cases hl : ds.length ≤ LINE
    · rw [if_pos hl] at p1
      exact ⟨by rw [ra.length]; exact LINE_le hl, Post.new A1 (ORel.lst ra) p1⟩
    · rw [if_neg hl] at p1; exact p1.elim⟩

/-! ### calls of built-ins and of defs -/
def eA (o : List D → Sto → R D) (u : AF) : EF := fun E S => (u E S).bind fun ds S1 => o ds S1
def OpA (g : G) (r : List V → Hp → VK → Prop) (o : List D → Sto → R D) : Prop := ∀ (ia : List Addr) (H : Hp) (S : Sto) (vs : List V) (ds : List D) (Q : VK) (W : XK), Abs g ia H S → Dens g.K ia H vs ds → Post g ia H W (relD g) (o ds S) Q → r vs H Q
theorem many {r : List V → Hp → VK → Prop} {o : List D → Sto → R D} (h : OpA g r o) {σ : L2.St} {H : Hp} {Q : VK} (q : tD g W (eA o u) σ H Q) : tA g W u σ H fun vs H1 => r vs H1 Q := by
  obtain ⟨ia, E, S, A, e, p⟩ := q
  refine ⟨ia, E, S, A, e, (Post.bind (rel := relL g) p).mono (fun v H1 h1 => ?_) fun _ _ _ h => h⟩
  obtain ⟨ia1, ds, S1, x1, A1, ra, p1⟩ := h1
  exact h ia1 H1 S1 v ds Q _ A1 ra p1
variable {x : Str} {ppos : Pos}
theorem de_callB {id : String} {r : List V → Hp → VK → Prop} {o : List D → Sto → R D} (hc : Ctx g lv X W → CallR X (.builtin id) r) (ho : OpA g r o) (hm : X.mg x = none) (hv : bootBuiltins x = some (.builtin id)) (ha : DA g lv X W (e :: es) u) (hg : Gl X x := by rfl)
    (hn : x ≠ "__name__" := by decide) (hdb : (x == ("__debug__" : Str)) = false := by decide) (he : starEach (e :: es) X.env = (false, eval e X.env) :: starEach es X.env := by rfl) (hpl : (backTo pos (starEach es X.env)).any (·.1) = false := by rfl) :
    DE g lv X W (.Call (.Name x ppos) (e :: es) [] pos) (eA o u) := ⟨fun c => (pe_callB (hc c) hg hm hv (ha.run c) hn hdb he hpl).wk fun _ _ _ q => many ho q⟩
theorem de_callTy {id : String} {r : List V → Hp → VK → Prop} {o : List D → Sto → R D} (hc : Ctx g lv X W → CallR X (.type id) r) (ho : OpA g r o) (hm : X.mg x = none) (hv : bootBuiltins x = some (.type id)) (ha : DA g lv X W (e :: es) u) (hg : Gl X x := by rfl)
    (hn : x ≠ "__name__" := by decide) (hdb : (x == ("__debug__" : Str)) = false := by decide) (he : starEach (e :: es) X.env = (false, eval e X.env) :: starEach es X.env := by rfl) (hpl : (backTo pos (starEach es X.env)).any (·.1) = false := by rfl) :
    DE g lv X W (.Call (.Name x ppos) (e :: es) [] pos) (eA o u) := ⟨fun c => (pe_callTy (hc c) hg hm hv (ha.run c) hn hdb he hpl).wk fun _ _ _ q => many ho q⟩
/-- a def's promise by its mirror: n parameters -/
def spD (g : G) (n : Nat) (m : List D → Sto → R D) : Sp := fun vs H Q EX => vs.length = n ∧ ∃ ia ds S, Abs g ia H S ∧ Dens g.K ia H vs ds ∧ Post g ia H EX (relD g) (m ds S) Q
/-- the def at f is mirrored by m -/
structure FnD (P : Program) (w : World) (mg : Str → Option Value) (base : Heap) (g : G) (k : Nat) (f : Addr) (n : Nat) (m : List D → Sto → R D) : Prop where
  ex : ∃ (fd : FuncData) (ps : List Str), ps.length = n ∧ FnOk P w g.K mg base (L2.CX P w) k f fd ps (spD g n m) ∧ Binds g.K fd ps []
  kp : PySem.W.keepIn g.K (.ref f) = true
/-- a def by its name -/
structure FnG (P : Program) (w : World) (mg : Str → Option Value) (base : Heap) (g : G) (k : Nat) (x : Str) (n : Nat) (m : List D → Sto → R D) : Prop where
  ex : ∃ f, mg x = some (.ref f) ∧ FnD P w mg base g k f n m
theorem passesAt_of {lv : Nat} (c : Ctx g lv X W) (σ : L2.St) : L2.PassesAt (L2.CX X.prog X.w) X σ (fun cl d H' => W cl d σ H') := fun pins H s e s' I q => c.tk e s' (XE.of_call I (fun _ _ _ h => h) q)
end
end DL
end OfDL2

section OfDL3
set_option Elab.async false
set_option linter.all false
set_option maxRecDepth 100000
/-! DL3: calls of defs and methods, fields, new instances, statements, targets, loops, what a def promises -/
namespace DL
open PySem PySem.Spec PyProof.Rows L2

section
variable {g : G} {lv : Nat} {X : Cx} {W : WX} {pos ppos apos : Pos} {a b e o : Expr} {es : List Expr} {f k : EF} {u : AF} {x m : Str} {n j : Nat}

theorem FnOk.K {P : Program} {w : World} {K K' : PySem.W.Frag} {mg : Str → Option Value} {base : Heap} {CX : CXT} {k : Nat} {f : Addr} {fd : FuncData} {ps : List Str} {sp : Sp} (e : K' = K) (F : L2.FnOk P w K mg base CX k f fd ps sp) : L2.FnOk P w K' mg base CX k f fd ps sp := by
  subst e; exact F
/-- the arguments, then the def's own work -/
theorem call_post {mm : List D → Sto → R D} {ds0 : List D} {vs0 : List V} {ia : List Addr} {E : Env} {S : Sto} {σ : L2.St} {H : Hp} {Q : VK} (hn : vs0.length + es.length = n) (A : Abs g ia H S) (e0 : EDen g.K ia H σ E) (r0 : Dens g.K ia H vs0 ds0)
    (p : Post g ia H (fun c d H' => W c d σ H') (relD g) ((u E S).bind fun ds S1 => mm (ds0 ++ ds) S1) Q) :
    ∃ ia E S, Abs g ia H S ∧ EDen g.K ia H σ E ∧ Post g ia H (fun c d H' => W c d σ H') (relL g) (u E S) fun vs H1 => vs.length = es.length → spD g n mm (vs0 ++ vs) H1 Q (fun c d H' => W c d σ H') := by
  refine ⟨ia, E, S, A, e0, (Post.bind (rel := relL g) p).mono (fun vs H1 h1 => ?_) fun _ _ _ h => h⟩
  obtain ⟨ia1, ds, S1, x1, A1, ra, p1⟩ := h1
  intro hl
  exact ⟨by rw [List.length_append, hl]; exact hn, ia1, ds0 ++ ds, S1, A1, (r0.ext x1).append ra, p1⟩

/-! an argument list's length -/
theorem PA.len {X : Cx} : ∀ {es : List Expr} {t : TA}, PA X es t → True := fun _ => trivial

structure DAn (g : G) (lv : Nat) (X : Cx) (W : WX) (es : List Expr) (n : Nat) (f : AF) : Prop where
  da : DA g lv X W es f
  len : ∀ E S, match f E S with
    | .ok ds _ => ds.length = n
    | _ => True
theorem dan_nil : DAn g lv X W [] 0 aNil := ⟨da_nil, fun _ _ => rfl⟩
theorem dan_cons {n : Nat} (ha : DE g lv X W e f) (hr : DAn g lv X W es n u) (hs : starEach (e :: es) X.env = (false, eval e X.env) :: starEach es X.env := by rfl) : DAn g lv X W (e :: es) (n + 1) (aCons f u) :=
  ⟨da_cons ha hr.da hs, fun E S => by
    unfold aCons
    cases h1 : f E S with
    | ok d S1 =>
      show match (u E S1).bind fun ds S2 => R.ok (d :: ds) S2 with | .ok ds _ => ds.length = n + 1 | _ => True
      have q := hr.len E S1
      cases h2 : u E S1 with
      | ok ds S2 => rw [h2] at q; simp only [List.length_cons]; exact congrArg (· + 1) q
      | err _ _ => trivial
      | bad => trivial
    | err _ _ => trivial
    | bad => trivial⟩
theorem Post.len {ia : List Addr} {H : Hp} {W : XK} {r : R (List D)} {n : Nat} {Q : List V → Hp → Prop} (h : match r with | .ok ds _ => ds.length = n | _ => True) (p : Post g ia H W (relL g) r Q) :
    Post g ia H W (relL g) r fun vs H' => vs.length = n ∧ Q vs H' := by
  cases r with
  | ok ds S => exact fun ia' H' vs x A r => ⟨by rw [r.length]; exact h, p ia' H' vs x A r⟩
  | err a S => exact p
  | bad => exact p

/-- f(e, ..) -/
theorem de_call {mm : List D → Sto → R D} (F : FnG X.prog X.w X.mg X.base g j x n mm) (hj : j ≤ lv) (ha : DAn g lv X W (e :: es) n u) (hg : Gl X x := by rfl)
    (hdb : (x == ("__debug__" : Str)) = false := by decide) (he : starEach (e :: es) X.env = (false, eval e X.env) :: starEach es X.env := by rfl) (hpl : (backTo pos (starEach es X.env)).any (·.1) = false := by rfl) :
    DE g lv X W (.Call (.Name x ppos) (e :: es) [] pos) (eA mm u) := ⟨fun c => by
  obtain ⟨f, hm, ⟨fd, ps, hp, F1, hb⟩, kp⟩ := F.ex
  have F2 := FnOk.K c.K F1
  refine (pe_callSD (X := X) (dvs := []) (ds := []) (E := fun σ c d H' => W c d σ H') F2 (c.room.mono hj) hg hm (by rw [c.K]; exact kp) (by rw [c.K]; exact hb) .nil (passesAt_of c) (ha.da.run c) hdb he hpl).wk fun σ H Q h => ?_
  obtain ⟨ia, E, S, A, e0, p⟩ := h
  refine ⟨ia, E, S, A, e0, (Post.len (ha.len E S) (Post.bind (rel := relL g) p)).mono (fun vs H1 h1 => ?_) fun _ _ _ h => h⟩
  obtain ⟨hl, ia1, ds, S1, x1, A1, ra, p1⟩ := h1
  exact ⟨by rw [List.append_nil]; exact hl, ia1, ds, S1, A1, by rw [List.append_nil]; exact ra, p1⟩⟩
/-- f() -/
theorem de_call0 {mm : List D → Sto → R D} (F : FnG X.prog X.w X.mg X.base g j x 0 mm) (hj : j ≤ lv) (hg : Gl X x := by rfl)
    (hdb : (x == ("__debug__" : Str)) = false := by decide) : DE g lv X W (.Call (.Name x ppos) [] [] pos) (eA mm aNil) := ⟨fun c => by
  obtain ⟨f, hm, ⟨fd, ps, hp, F1, hb⟩, kp⟩ := F.ex
  have F2 := FnOk.K c.K F1
  refine ⟨fun pins s σ H Q I h => ?_⟩
  refine wpAny_Call_Name_kw (ld_glob I hg hm ?_ hdb)
  obtain ⟨ia, E, S, A, e0, p⟩ := h
  refine PySem.W.callWith_K0 I.kIn (by rw [c.K]; exact kp) (run_fnSD (us := []) (vs := []) (dvs := []) (ds := []) (E := fun σ c d H' => W c d σ H') F2 (c.room.mono hj) (by rw [c.K]; exact hb) .nil (passesAt_of c σ) I .nil ?_)
  exact ⟨rfl, ia, [], S, A, .nil, p⟩⟩

/-! ### instances -/
/-- the receivers of a method: class, mirror -/
abbrev MTab := List (Nat × (List D → Sto → R D))
def mLook (t : MTab) (c : Nat) : Option (List D → Sto → R D) := t.lookup c
def eMeth (t : MTab) (f : EF) (u : AF) : EF := fun E S => (f E S).bind fun d S1 => match d with
  | .ref r => match S1[r]? with
    | some (.ins c _) => match t.lookup c with
      | some mm => (u E S1).bind fun ds S2 => mm (.ref r :: ds) S2
      | none => .bad
    | _ => .bad
  | _ => .bad
/-- the class c has the method m, mirrored by mm -/
structure MethD (P : Program) (w : World) (mg : Str → Option Value) (base : Heap) (g : G) (j : Nat) (c : Nat) (m : Str) (n : Nat) (mm : List D → Sto → R D) : Prop where
  ex : ∀ C, g.cls[c]? = some C → Cls g.K C ∧ ∃ f, Meth g.K C m f ∧ FnD P w mg base g j f (n + 1) mm
theorem frel_names {ia : List Addr} {H : Hp} : ∀ {fs : List (Nat × D)} {vs : List (Str × V)}, Paired (FRel g ia H) fs vs → ∀ nm, nm ∉ g.fn → vs.lookup nm = none
  | _, _, .nil, _, _ => rfl
  | p :: fs, q :: vs, .cons r t, nm, h => by
    have hne : ¬ nm = q.1 := fun e => h (by rw [e]; exact List.mem_of_getElem? r.1)
    obtain ⟨q1, q2⟩ := q
    have hb : (nm == q1) = false := by simpa using hne
    simp only [List.lookup_cons, hb]
    exact frel_names t nm h
theorem frel_look {ia : List Addr} {H : Hp} {i : Nat} {nm : Str} (hi : g.fn[i]? = some nm) : ∀ {fs : List (Nat × D)} {vs : List (Str × V)} {d : D}, Paired (FRel g ia H) fs vs → fs.lookup i = some d → ∃ v, vs.lookup nm = some v ∧ Den g.K ia H v d
  | _, _, _, .nil, h => by simp at h
  | p :: fs, q :: vs, d, .cons r t, h => by
    obtain ⟨p1, p2⟩ := p
    obtain ⟨q1, q2⟩ := q
    by_cases e : i = p1
    · subst e
      have e1 : nm = q1 := by
        have := r.1
        simp only at this
        rw [hi] at this
        exact Option.some.inj this
      subst e1
      simp at h
      subst h
      exact ⟨q2, by simp, r.2⟩
    · have hb : (i == p1) = false := by simpa using e
      simp only [List.lookup_cons, hb] at h
      have hne : ¬ nm = q1 := fun e2 => e (by
        subst e2
        exact L2.nd_ix g.fnd hi r.1)
      have hb2 : (nm == q1) = false := by simpa using hne
      simp only [List.lookup_cons, hb2]
      exact frel_look hi t h
def putN (i : Nat) (d : D) : List (Nat × D) → List (Nat × D)
  | [] => [(i, d)]
  | (k, e) :: r => if k = i then (i, d) :: r else (k, e) :: putN i d r
theorem frel_put {ia : List Addr} {H : Hp} {i : Nat} {nm : Str} (hi : g.fn[i]? = some nm) {v : V} {d : D} (r : Den g.K ia H v d) : ∀ {fs : List (Nat × D)} {vs : List (Str × V)}, Paired (FRel g ia H) fs vs → Paired (FRel g ia H) (putN i d fs) (L2.putF nm v vs)
  | _, _, .nil => .cons ⟨hi, r⟩ .nil
  | p :: fs, q :: vs, .cons r0 t => by
    obtain ⟨p1, p2⟩ := p
    obtain ⟨q1, q2⟩ := q
    by_cases e : p1 = i
    · subst e
      have e1 : q1 = nm := by
        have := r0.1
        simp only at this
        rw [hi] at this
        exact (Option.some.inj this).symm
      subst e1
      show Paired (FRel g ia H) (if p1 = p1 then _ else _) (L2.putF q1 v ((q1, q2) :: vs))
      rw [if_pos rfl]
      unfold L2.putF
      rw [if_pos rfl]
      exact .cons ⟨hi, r⟩ t
    · have hne : ¬ q1 = nm := fun e2 => e (by
        subst e2
        exact L2.nd_ix g.fnd r0.1 hi)
      show Paired (FRel g ia H) (if p1 = i then _ else _) (L2.putF nm v ((q1, q2) :: vs))
      rw [if_neg e]
      unfold L2.putF
      rw [if_neg hne]
      exact .cons r0 (frel_put hi r t)
theorem Paired.len {α β : Type} {F : α → β → Prop} : ∀ {l : List α} {m : List β}, Paired F l m → l.length = m.length
  | _, _, .nil => rfl
  | _, _, .cons _ t => by simp [Paired.len t]

/-- o.m(e, ..) -/
theorem de_meth {t : MTab} {pl : Sem Bool} (ho : DE g lv X W o f) (ht0 : ∀ c mm, t.lookup c = some mm → ∃ j, j ≤ lv ∧ MethD X.prog X.w X.mg X.base g j c m n mm) (hnf : m ∉ g.fn) (ha : DAn g lv X W (e :: es) n u)
    (hst : starEach (e :: es) X.env = (false, eval e X.env) :: starEach es X.env := by rfl) (hpl : (backTo pos (starEach es X.env)).any (·.1) = false := by rfl)
    (ht : eval (.Call (.Attribute o m apos) (e :: es) [] pos) X.env = (do
      let ov ← eval o X.env
      standAt apos.atName
      let (f, first) ← holding [ov] (getMethod ov m pl)
      callWith pos f first (backTo pos (starEach (e :: es) X.env)) (backToKw pos (keywordEach [] X.env))) := by rfl) :
    DE g lv X W (.Call (.Attribute o m apos) (e :: es) [] pos) (eMeth t f u) := ⟨fun c => ⟨fun pins s σ H Q I h => by
  obtain ⟨ia, E, S, A, e0, p⟩ := h
  refine PySem.W.methodCall_KW (pl := pl) (thn ((ho.run c).run pins s σ H _ I ⟨ia, E, S, A, e0, Post.bind (rel := relD g) p⟩) fun uu s1 ⟨xx, H1, I1, rx, ia1, d, S1, x1, A1, rd, p1⟩ => ?_) ht
  cases rd with
  | @ref aa r hr =>
    cases rx
    simp only at p1
    cases hs : S1[r]? with
    | none => rw [hs] at p1; exact p1.elim
    | some ob =>
      rw [hs] at p1
      cases ob with
      | ins cc fs =>
        simp only at p1
        cases hl : t.lookup cc with
        | none => rw [hl] at p1; exact p1.elim
        | some mm =>
          rw [hl] at p1
          simp only at p1
          obtain ⟨C, dx, vs, hC, hH, rf⟩ := A1.obj' hr hs
          obtain ⟨j, hj, M⟩ := ht0 cc mm hl
          obtain ⟨cl, fa, me, ⟨fd, ps, hps, F1, hb⟩, kp⟩ := M.ex C hC
          refine getmeth_ok I1 hH (by rw [c.K]; exact cl) (by rw [c.K]; exact me) (frel_names rf m hnf) ?_
          refine PySem.W.callWith_K (first := [.ref aa]) (h₀ := X.base) I.ok.mod.kin (by rw [c.K]; exact me.kp) (thn ((ha.da.run c).run pos pins s1 σ H1 _ I1 ⟨ia1, E, S1, A1, e0.ext x1, Post.len (ha.len E S1) (Post.bind (rel := relL g) p1)⟩) fun us s2 ⟨ws, H2, I2, rr, hlen, ia2, ds, S2, x2, A2, rds, p2⟩ => ⟨I2.kIn, ?_⟩) hst hpl
          refine run_fnSD (us := .ref aa :: us) (vs := .ref aa :: ws) (dvs := []) (ds := []) (E := fun σ c d H' => W c d σ H') (FnOk.K c.K F1) (c.room.mono hj) (by rw [c.K]; exact hb) .nil (passesAt_of c σ) I2 (.cons rfl rr) ?_
          rw [List.append_nil]
          exact ⟨by simp [hlen], ia2, .ref r :: ds, S2, A2, .cons (.ref (x2.at hr)) rds, p2⟩
      | _ => exact p1.elim
  | _ => exact p1.elim⟩⟩
/-- o.m() -/
theorem de_meth0 {t : MTab} {pl : Sem Bool} (ho : DE g lv X W o f) (ht0 : ∀ c mm, t.lookup c = some mm → ∃ j, j ≤ lv ∧ MethD X.prog X.w X.mg X.base g j c m 0 mm) (hnf : m ∉ g.fn)
    (ht : eval (.Call (.Attribute o m apos) [] [] pos) X.env = (do
      let ov ← eval o X.env
      standAt apos.atName
      let (f, first) ← holding [ov] (getMethod ov m pl)
      callWith pos f first (backTo pos (starEach [] X.env)) (backToKw pos (keywordEach [] X.env))) := by rfl) :
    DE g lv X W (.Call (.Attribute o m apos) [] [] pos) (eMeth t f aNil) := ⟨fun c => ⟨fun pins s σ H Q I h => by
  obtain ⟨ia, E, S, A, e0, p⟩ := h
  refine PySem.W.methodCall_KW (pl := pl) (thn ((ho.run c).run pins s σ H _ I ⟨ia, E, S, A, e0, Post.bind (rel := relD g) p⟩) fun uu s1 ⟨xx, H1, I1, rx, ia1, d, S1, x1, A1, rd, p1⟩ => ?_) ht
  cases rd with
  | @ref aa r hr =>
    cases rx
    simp only at p1
    cases hs : S1[r]? with
    | none => rw [hs] at p1; exact p1.elim
    | some ob =>
      rw [hs] at p1
      cases ob with
      | ins cc fs =>
        simp only at p1
        cases hl : t.lookup cc with
        | none => rw [hl] at p1; exact p1.elim
        | some mm =>
          rw [hl] at p1
          simp only at p1
          obtain ⟨C, dx, vs, hC, hH, rf⟩ := A1.obj' hr hs
          obtain ⟨j, hj, M⟩ := ht0 cc mm hl
          obtain ⟨cl, fa, me, ⟨fd, ps, hps, F1, hb⟩, kp⟩ := M.ex C hC
          refine getmeth_ok I1 hH (by rw [c.K]; exact cl) (by rw [c.K]; exact me) (frel_names rf m hnf) ?_
          refine PySem.W.callWith_K0 (first := [.ref aa]) I1.kIn (by rw [c.K]; exact me.kp) ?_
          refine run_fnSD (us := [.ref aa]) (vs := [.ref aa]) (dvs := []) (ds := []) (E := fun σ c d H' => W c d σ H') (FnOk.K c.K F1) (c.room.mono hj) (by rw [c.K]; exact hb) .nil (passesAt_of c σ) I1 (.cons rfl .nil) ?_
          exact ⟨rfl, ia1, [.ref r], S1, A1, .cons (.ref hr) .nil, p1⟩
      | _ => exact p1.elim
  | _ => exact p1.elim⟩⟩

/-- e.f -/
def eFld (i : Nat) (cs : List Nat) (f : EF) : EF := fun E S => (f E S).bind fun d S1 => match d with
  | .ref r => match S1[r]? with
    | some (.ins c fs) => if cs.contains c = true then match fs.lookup i with
        | some d => .ok d S1
        | none => .bad
      else .bad
    | _ => .bad
  | _ => .bad
/-- the classes cs have the attribute's name i for their instances alone -/
structure FldD (g : G) (i : Nat) (nm : Str) (cs : List Nat) : Prop where
  at_ : g.fn[i]? = some nm
  ok : ∀ c C, cs.contains c = true → g.cls[c]? = some C → Cls g.K C ∧ NoAttr g.K C nm
theorem de_fld {i : Nat} {cs : List Nat} {nm : Str} (F : FldD g i nm cs) (ho : DE g lv X W e f) (hb : attributeBase e nm X.env (eval e X.env) = eval e X.env := by rfl) : DE g lv X W (.Attribute e nm pos) (eFld i cs f) :=
  ⟨fun c => (pe_fld (ho.run c) hb).wk fun σ H Q h => by
    obtain ⟨ia, E, S, A, e0, p⟩ := h
    refine ⟨ia, E, S, A, e0, (Post.bind (rel := relD g) p).mono (fun v H1 h1 => ?_) fun _ _ _ h => h⟩
    obtain ⟨ia1, d, S1, x1, A1, ra, p1⟩ := h1
    cases ra with
    | @ref aa r hr =>
      simp only at p1
      cases hs : S1[r]? with
      | none => rw [hs] at p1; exact p1.elim
      | some ob =>
        rw [hs] at p1
        cases ob with
        | ins cc fs =>
          simp only at p1
          by_cases hcs : cs.contains cc = true
          · rw [if_pos hcs] at p1
            cases hl : fs.lookup i with
            | none => rw [hl] at p1; exact p1.elim
            | some d =>
              rw [hl] at p1
              obtain ⟨C, dx, vs, hC, hH, rf⟩ := A1.obj' hr hs
              obtain ⟨v, hv, rv⟩ := frel_look F.at_ rf hl
              obtain ⟨k1, k2⟩ := F.ok cc C hcs hC
              exact ⟨aa, C, dx, vs, v, rfl, hH, by rw [c.K]; exact k1, by rw [c.K]; exact k2, hv, p1 ia1 H1 v .refl A1 rv⟩
          · rw [if_neg hcs] at p1; exact p1.elim
        | _ => exact p1.elim
    | _ => exact p1.elim⟩

/-- an expression within a statement -/
@[reducible] def RS.of {α : Type} (r : R α) (E : Env) (F : α → Sto → RS) : RS := match r with
  | .ok a S1 => F a S1
  | .err x S1 => .er x E S1
  | .bad => .bad
def sFldS (i : Nat) (cs : List Nat) (f k : EF) : SF := fun E S => RS.of (k E S) E fun y S1 => RS.of (f E S1) E fun d S2 => match d with
  | .ref r => match S2[r]? with
    | some (.ins c fs) => if cs.contains c = true ∧ fs.length < 900 then .nx E (S2.set r (.ins c (putN i y fs))) else .bad
    | _ => .bad
  | _ => .bad
/-- a result of an expression within a statement -/
theorem PostS.ofR {α β : Type} {rel : List Addr → Hp → β → α → Prop} {r : R α} {F : α → Sto → RS} {ia : List Addr} {H : Hp} {σ : L2.St} {E : Env} {Dn : Ends} (e0 : EDen g.K ia H σ E)
    (p : PostS g ia H W (RS.of r E F) Dn) :
    Post g ia H (fun c d H' => W c d σ H') rel r fun v H' => ∃ ia' a S', Ext ia H ia' H' ∧ Abs g ia' H' S' ∧ rel ia' H' v a ∧ EDen g.K ia' H' σ E ∧ PostS g ia' H' W (F a S') Dn := by
  cases r with
  | ok a S1 =>
    intro ia' H' v x A ra
    refine ⟨ia', a, S1, x, A, ra, e0.ext x, ?_⟩
    have p : PostS g ia H W (F a S1) Dn := p
    cases h : F a S1 <;> rw [h] at p <;> simp only [PostS] at p ⊢
    · exact fun ia2 H2 σ2 x2 => p ia2 H2 σ2 (x.trans x2)
    · exact fun ia2 H2 v2 x2 => p ia2 H2 v2 (x.trans x2)
    · exact fun ia2 H2 σ2 x2 => p ia2 H2 σ2 (x.trans x2)
    · exact fun ia2 H2 σ2 x2 => p ia2 H2 σ2 (x.trans x2)
    · exact fun ia2 H2 σ2 c d x2 => p ia2 H2 σ2 c d (x.trans x2)
  | err xx S1 => exact fun ia' H' c d x A rx => p ia' H' σ c d x A (e0.ext x) rx
  | bad => exact p.elim
theorem PostS.later {r : RS} {ia ia1 : List Addr} {H H1 : Hp} {Dn : Ends} (x : Ext ia H ia1 H1) (p : PostS g ia H W r Dn) : PostS g ia1 H1 W r Dn := by
  cases r <;> simp only [PostS] at p ⊢
  · exact fun ia2 H2 σ2 x2 => p ia2 H2 σ2 (x.trans x2)
  · exact fun ia2 H2 v2 x2 => p ia2 H2 v2 (x.trans x2)
  · exact fun ia2 H2 σ2 x2 => p ia2 H2 σ2 (x.trans x2)
  · exact fun ia2 H2 σ2 x2 => p ia2 H2 σ2 (x.trans x2)
  · exact fun ia2 H2 σ2 c d x2 => p ia2 H2 σ2 c d (x.trans x2)
theorem ds_fld {i : Nat} {cs : List Nat} {nm : Str} {value : Expr} {pos' : Pos} (F : FldD g i nm cs) (ho : DE g lv X W o f) (hv : DE g lv X W value k) (hs : swapsWith value (some (.Attribute o nm pos')) pos.line X.env = pure false := by rfl) :
    DS g lv X W (.Assign [.Attribute o nm pos'] value pos) (sFldS i cs f k) := ⟨fun c => (ps_fld (ho.run c) (hv.run c) hs).wk fun Dn σ H h => by
  obtain ⟨ia, E, S, A, e0, p⟩ := h
  refine ⟨ia, E, S, A, e0, (PostS.ofR (rel := relD g) e0 p).mono (fun v H1 h1 => ?_) fun _ _ _ h => h⟩
  obtain ⟨ia1, y, S1, x1, A1, ra, e1, p1⟩ := h1
  refine ⟨ia1, E, S1, A1, e1, (PostS.ofR (rel := relD g) e1 p1).mono (fun w H2 h2 => ?_) fun _ _ _ h => h⟩
  obtain ⟨ia2, d, S2, x2, A2, rb, e2, p2⟩ := h2
  cases rb with
  | @ref aa r hr =>
    simp only at p2
    cases hs : S2[r]? with
    | none => rw [hs] at p2; exact p2.elim
    | some ob =>
      rw [hs] at p2
      cases ob with
      | ins cc fs =>
        simp only at p2
        by_cases hcs : cs.contains cc = true ∧ fs.length < 900
        · rw [if_pos hcs] at p2
          obtain ⟨C, dx, vs, hC, hH, rf⟩ := A2.obj' hr hs
          obtain ⟨k1, k2⟩ := F.ok cc C hcs.1 hC
          have hlen := Paired.len rf
          refine ⟨aa, C, dx, vs, rfl, hH, by rw [c.K]; exact k1, by rw [c.K]; exact k2, by omega, ?_⟩
          have xx : Ext ia2 H2 ia2 (upd H2 aa (.ins C dx (L2.putF nm v vs))) := Ext.chg hH (fun _ z => nomatch z) (fun _ _ z => nomatch z)
          refine p2 ia2 _ σ xx (A2.set hr hH (fun _ z => nomatch z) (fun _ _ z => nomatch z) ?_) (e2.ext xx)
          exact ⟨C, dx, _, hC, upd_same, frel_put F.at_ ((ra.ext x2).ext xx) (L2.Paired.mapP rf fun _ _ q => q.ext xx)⟩
        · rw [if_neg hcs] at p2; exact p2.elim
      | _ => exact p2.elim
  | _ => exact p2.elim⟩
/-- C(e, ..) -/
def eMake (c : Nat) (mm : List D → Sto → R D) (u : AF) : EF := fun E S => (u E S).bind fun ds S1 => match mm (.ref S1.length :: ds) (S1 ++ [.ins c []]) with
  | .ok d S2 => match d with
    | .non => .ok (.ref S1.length) S2
    | _ => .bad
  | _ => .bad
structure MakeD (P : Program) (w : World) (mg : Str → Option Value) (base : Heap) (g : G) (j : Nat) (c : Nat) (x : Str) (n : Nat) (mm : List D → Sto → R D) : Prop where
  ex : ∃ C fI, mg x = some (.ref C) ∧ g.cls[c]? = some C ∧ Mk g.K C fI ∧ FnD P w mg base g j fI (n + 1) mm
theorem make_post {c0 : Nat} {mm : List D → Sto → R D} {ia : List Addr} {H1 : Hp} {S1 : Sto} {vs : List V} {ds : List D} {C : Addr} {Q : VK} {WW : XK} (hC : g.cls[c0]? = some C) (A1 : Abs g ia H1 S1) (rr : Dens g.K ia H1 vs ds) (hl : vs.length = n)
    (p : Post g ia H1 WW (relD g) (match mm (.ref S1.length :: ds) (S1 ++ [.ins c0 []]) with | .ok d S2 => (match d with | .non => .ok (.ref S1.length) S2 | _ => .bad) | _ => .bad) Q) :
    ∀ x dx, H1 x = none → H1 dx = none → dx ≠ x → spD g (n + 1) mm (.ref x :: (vs ++ [])) (upd (upd H1 dx (.own x)) x (.ins C dx [])) (fun v H2 => v = .non ∧ Q (.ref x) H2) (fun _ _ _ => False) := fun x dx hx hdx hne => by
  have A2 := A1.off (ho := .own x) hdx
  have hx2 : upd H1 dx (.own x) x = none := by rw [upd_ne (Ne.symm hne)]; exact hx
  obtain ⟨A3, x3⟩ := A2.push (o := .ins c0 []) (ho := .ins C dx []) hx2 fun ia' H' _ e => ⟨C, dx, [], hC, e, .nil⟩
  have x4 := (Ext.new (ia := ia) (ho := .own x) hdx).trans x3
  refine ⟨by simp [hl], _, .ref S1.length :: ds, _, A3, .cons (.ref (by rw [← A1.len]; simp)) (by rw [List.append_nil]; exact rr.ext x4), ?_⟩
  cases hm : mm (.ref S1.length :: ds) (S1 ++ [.ins c0 []]) with
  | ok d S2 =>
    rw [hm] at p
    intro ia' H' v x5 A5 rv
    cases rv with
    | non => exact ⟨rfl, p ia' H' _ (x4.trans x5) A5 (.ref (x5.at (by rw [← A1.len]; simp)))⟩
    | _ => exact p.elim
  | err _ _ => rw [hm] at p; exact p.elim
  | bad => rw [hm] at p; exact p.elim
theorem de_make {c0 : Nat} {mm : List D → Sto → R D} (M : MakeD X.prog X.w X.mg X.base g j c0 x n mm) (hj : j + 1 ≤ lv) (ha : DAn g lv X W (e :: es) n u) (hg : Gl X x := by rfl)
    (hdb : (x == ("__debug__" : Str)) = false := by decide) (he : starEach (e :: es) X.env = (false, eval e X.env) :: starEach es X.env := by rfl) (hpl : (backTo pos (starEach es X.env)).any (·.1) = false := by rfl) :
    DE g lv X W (.Call (.Name x ppos) (e :: es) [] pos) (eMake c0 mm u) := ⟨fun c => by
  obtain ⟨C, fI, hm, hC, mk, ⟨fd, ps, hps, F1, hb⟩, kp⟩ := M.ex
  refine (pe_make (X := X) (dvs := []) (ds := []) (E := fun _ _ _ => False) (by rw [c.K]; exact mk) (FnOk.K c.K F1) (c.room.mono hj) hg hm (by rw [c.K]; exact hb) .nil passL (ha.da.run c) hdb he hpl).wk fun σ H Q h => ?_
  obtain ⟨ia, E, S, A, e0, p⟩ := h
  refine ⟨ia, E, S, A, e0, (Post.len (ha.len E S) (Post.bind (rel := relL g) p)).mono (fun vs H1 h1 => ?_) fun _ _ _ h => h⟩
  obtain ⟨hl, ia1, ds, S1, x1, A1, ra, p1⟩ := h1
  exact make_post hC A1 ra hl p1⟩
theorem de_make0 {c0 : Nat} {mm : List D → Sto → R D} (M : MakeD X.prog X.w X.mg X.base g j c0 x 0 mm) (hj : j + 1 ≤ lv) (hg : Gl X x := by rfl)
    (hdb : (x == ("__debug__" : Str)) = false := by decide) : DE g lv X W (.Call (.Name x ppos) [] [] pos) (eMake c0 mm aNil) := ⟨fun c => by
  obtain ⟨C, fI, hm, hC, mk, ⟨fd, ps, hps, F1, hb⟩, kp⟩ := M.ex
  refine (pe_make0 (X := X) (dvs := []) (ds := []) (E := fun _ _ _ => False) (by rw [c.K]; exact mk) (FnOk.K c.K F1) (c.room.mono hj) hg hm (by rw [c.K]; exact hb) .nil passL hdb).wk fun σ H Q h => ?_
  obtain ⟨ia, E, S, A, e0, p⟩ := h
  exact make_post (vs := []) (ds := []) hC A .nil rfl p⟩
end

/-! ### statements -/
section
variable {g : G} {lv : Nat} {X : Cx} {W : WX} {pos : Pos} {e : Expr} {f k : EF} {st : Stmt} {rest : List Stmt} {s t : SF} {p : TF}
def sNext : SF := fun E S => .nx E S
def sSeq (s t : SF) : SF := fun E S => match s E S with
  | .nx E1 S1 => t E1 S1
  | r => r
theorem PostS.seq {r : RS} {t : SF} {ia : List Addr} {H : Hp} {Dn : Ends} (p : PostS g ia H W (match r with | .nx E1 S1 => t E1 S1 | r => r) Dn) : PostS g ia H W r { Dn with nx := tS g W t Dn } := by
  cases r with
  | nx E1 S1 => exact fun ia' H' σ' x A e => ⟨ia', E1, S1, A, e, PostS.later x p⟩
  | _ => exact p
theorem dss_nil : DSs g lv X W [] sNext := ⟨fun c => pss_nil.wk fun Dn σ H h => by
  obtain ⟨ia, E, S, A, e0, p⟩ := h
  exact p ia H σ .refl A e0⟩
theorem dss_cons (h1 : DS g lv X W st s) (h2 : DSs g lv X W rest t) : DSs g lv X W (st :: rest) (sSeq s t) := ⟨fun c => (pss_cons (h1.run c) (h2.run c)).wk fun Dn σ H h => by
  obtain ⟨ia, E, S, A, e0, p⟩ := h
  exact ⟨ia, E, S, A, e0, PostS.seq p⟩⟩
theorem dss_one (h1 : DS g lv X W st s) : DSs g lv X W [st] s := ⟨fun c => pss_one (h1.run c)⟩
theorem ds_pass : DS g lv X W (.Pass pos) sNext := ⟨fun c => ps_pass.wk fun Dn σ H h => by
  obtain ⟨ia, E, S, A, e0, p⟩ := h
  exact p ia H σ .refl A e0⟩
def sBreak : SF := fun E S => .bk E S
def sCont : SF := fun E S => .ct E S
theorem ds_break : DS g lv X W (.Break pos) sBreak := ⟨fun c => ps_break.wk fun Dn σ H h => by
  obtain ⟨ia, E, S, A, e0, p⟩ := h
  exact p ia H σ .refl A e0⟩
theorem ds_continue : DS g lv X W (.Continue pos) sCont := ⟨fun c => ps_continue.wk fun Dn σ H h => by
  obtain ⟨ia, E, S, A, e0, p⟩ := h
  exact p ia H σ .refl A e0⟩
def sExpr (f : EF) : SF := fun E S => RS.of (f E S) E fun _ S1 => .nx E S1
theorem ds_expr (he : DE g lv X W e f) (hs : swapsWith e none pos.line X.env = pure false := by rfl) : DS g lv X W (.Expr e pos) (sExpr f) := ⟨fun c => (ps_expr (he.run c) hs).wk fun Dn σ H h => by
  obtain ⟨ia, E, S, A, e0, p⟩ := h
  refine ⟨ia, E, S, A, e0, (PostS.ofR (rel := relD g) e0 p).mono (fun v H1 h1 => ?_) fun _ _ _ h => h⟩
  obtain ⟨ia1, y, S1, x1, A1, ra, e1, p1⟩ := h1
  exact p1 ia1 H1 σ .refl A1 e1⟩
def sRet (f : EF) : SF := fun E S => RS.of (f E S) E fun d S1 => .rt d S1
def sRetN : SF := fun _ S => .rt .non S
theorem ds_ret (he : DE g lv X W e f) : DS g lv X W (.Return (some e) pos) (sRet f) := ⟨fun c => (ps_ret (he.run c)).wk fun Dn σ H h => by
  obtain ⟨ia, E, S, A, e0, p⟩ := h
  refine ⟨ia, E, S, A, e0, (PostS.ofR (rel := relD g) e0 p).mono (fun v H1 h1 => ?_) fun _ _ _ h => h⟩
  obtain ⟨ia1, y, S1, x1, A1, ra, e1, p1⟩ := h1
  exact p1 ia1 H1 v .refl A1 ra⟩
theorem ds_retN : DS g lv X W (.Return none pos) sRetN := ⟨fun c => ps_retN.wk fun Dn σ H h => by
  obtain ⟨ia, E, S, A, e0, p⟩ := h
  exact p ia H .non .refl A .non⟩
def sIf (p : TF) (s t : SF) : SF := fun E S => RS.of (p E S) E fun b S1 => if b = true then s E S1 else t E S1
theorem ds_if {cnd : Expr} {as bs : List Stmt} (hc : DT g lv X W cnd p) (ha : DSs g lv X W as s) (hb : DSs g lv X W bs t) : DS g lv X W (.If cnd as bs pos) (sIf p s t) := ⟨fun c => (ps_if (hc.run c) (ha.run c) (hb.run c)).wk fun Dn σ H h => by
  obtain ⟨ia, E, S, A, e0, q⟩ := h
  refine ⟨ia, E, S, A, e0, (PostS.ofR (rel := relB) e0 q).mono (fun v H1 h1 => ?_) fun _ _ _ h => h⟩
  obtain ⟨ia1, y, S1, x1, A1, rfl, e1, p1⟩ := h1
  by_cases hv : v = true
  · rw [if_pos hv] at p1 ⊢
    exact ⟨ia1, E, S1, A1, e1, p1⟩
  · rw [if_neg hv] at p1 ⊢
    exact ⟨ia1, E, S1, A1, e1, p1⟩⟩

/-! ### targets -/
abbrev TgF := D → Env → Option Env
/-- slots but own stay -/
def Off (own : List Nat) (σ σ' : L2.St) : Prop := σ'.length = σ.length ∧ ∀ i, i ∉ own → σ'[i]? = σ[i]?
def tG (g : G) (own : List Nat) (t : TgF) : TG := fun v σ H Q => ∃ ia E S d E', Abs g ia H S ∧ EDen g.K ia H σ E ∧ Den g.K ia H v d ∧ t d E = some E' ∧ ∀ σ', EDen g.K ia H σ' E' → Off own σ σ' → Q σ' H
structure DG (g : G) (lv : Nat) (X : Cx) (W : WX) (tg : Expr) (own : List Nat) (t : TgF) : Prop where run : Ctx g lv X W → PG X tg (tG g own t)
theorem _root_.L2.PG.wk {X : Cx} {e : Expr} {t t' : TG} (h : PG X e t) (i : ∀ v σ H Q, t' v σ H Q → t v σ H Q) : PG X e t' := ⟨fun pins s σ H v u Q I r q => h.run pins s σ H v u Q I r (i v σ H Q q)⟩
def gNm (i : Nat) : TgF := fun d E => some (E.set i (some d))
theorem dg_name {i : Nat} {x : Str} (hN : X.N.Nodup) (hi : X.N[i]? = some x := by rfl) (hx : Loc X.env.scope x := by first | exact Or.inl rfl | exact Or.inr rfl) (hf : X.fn x = true ∨ X.env.scope.names.lookup x = some .local := by first | exact .inl rfl | exact .inr rfl | assumption) : DG g lv X W (.Name x pos) [i] (gNm i) :=
  ⟨fun c => (pg_name hN hi hx hf).wk fun v σ H Q h => by
    obtain ⟨ia, E, S, d, E', A, e0, r, q, h⟩ := h
    cases q
    refine h _ (e0.set (.some r) i) ⟨by simp, fun j hj => ?_⟩
    rw [List.getElem?_set_ne (fun z => hj (by rw [z]; simp))]⟩
/-- several targets -/
abbrev TgsF := List D → Env → Option Env
def tGs (g : G) (own : List Nat) (t : TgsF) : TGs := fun vs σ H Q => ∃ ia E S ds E', Abs g ia H S ∧ EDen g.K ia H σ E ∧ Dens g.K ia H vs ds ∧ t ds E = some E' ∧ ∀ σ', EDen g.K ia H σ' E' → Off own σ σ' → Q σ' H
structure DGs (g : G) (lv : Nat) (X : Cx) (W : WX) (tg : List Expr) (own : List Nat) (t : TgsF) : Prop where run : Ctx g lv X W → PGs X tg (tGs g own t)
theorem _root_.L2.PGs.wk {X : Cx} {e : List Expr} {t t' : TGs} (h : PGs X e t) (i : ∀ v σ H Q, t' v σ H Q → t v σ H Q) : PGs X e t' := ⟨fun pins s σ H v u Q I r q => h.run pins s σ H v u Q I r (i v σ H Q q)⟩
def gsNil : TgsF := fun ds E => match ds with
  | [] => some E
  | _ => none
def gsCons (t : TgF) (u : TgsF) : TgsF := fun ds E => match ds with
  | d :: r => match t d E with
    | some E1 => u r E1
    | none => none
  | [] => none
theorem dgs_nil : DGs g lv X W [] [] gsNil := ⟨fun c => pgs_nil.wk fun vs σ H Q h => by
  obtain ⟨ia, E, S, ds, E', A, e0, r, q, h⟩ := h
  cases r with
  | nil =>
    cases q
    exact ⟨rfl, h _ e0 ⟨rfl, fun _ _ => rfl⟩⟩
  | cons _ _ => cases q⟩
theorem dgs_cons {es : List Expr} {o1 o2 : List Nat} {t : TgF} {u : TgsF} (h1 : DG g lv X W e o1 t) (h2 : DGs g lv X W es o2 u) (hs : (assignEach (e :: es) X.env).map (·.2) = assign e X.env :: (assignEach es X.env).map (·.2) := by rfl) : DGs g lv X W (e :: es) (o1 ++ o2) (gsCons t u) :=
  ⟨fun c => (pgs_cons (h1.run c) (h2.run c) hs).wk fun vs σ H Q h => by
    obtain ⟨ia, E, S, ds, E', A, e0, r, q, h⟩ := h
    cases r with
    | nil => cases q
    | @cons v vs d ds r rs =>
      unfold gsCons at q
      simp only at q
      cases h1 : t d E with
      | none => rw [h1] at q; cases q
      | some E1 =>
        rw [h1] at q
        exact ⟨v, vs, rfl, ia, E, S, d, E1, A, e0, r, h1, fun σ1 e1 f1 => ⟨ia, E1, S, ds, E', A, e1, rs, q, fun σ2 e2 f2 => h σ2 e2 ⟨f2.1.trans f1.1, fun i hi => (f2.2 i fun z => hi (List.mem_append_right _ z)).trans (f1.2 i fun z => hi (List.mem_append_left _ z))⟩⟩⟩⟩
def gTupF (n : Nat) (u : TgsF) : TgF := fun d E => match d with
  | .tup ds => if ds.length = n then u ds E else none
  | _ => none
theorem dg_tup {es : List Expr} {kk : Nat} {own : List Nat} {u : TgsF} {n : Nat} (h : DGs g lv X W es own u) (hn : (assignEach es X.env).length = n := by rfl) (hst : (assignEach es X.env).findIdx? (·.1) = none := by rfl) : DG g lv X W (.Tuple es kk pos) own (gTupF n u) :=
  ⟨fun c => (pg_tup c.calm (h.run c) hn hst).wk fun v σ H Q h => by
    obtain ⟨ia, E, S, d, E', A, e0, r, q, h⟩ := h
    cases r with
    | @tup a vs ds hs rs =>
      unfold gTupF at q
      simp only at q
      by_cases hl : ds.length = n
      · rw [if_pos hl] at q
        exact ⟨a, vs, rfl, by rw [c.K]; exact hs, by rw [rs.length]; exact hl, ia, E, S, ds, E', A, e0, rs, q, h⟩
      · rw [if_neg hl] at q; cases q
    | _ => cases q⟩
def sAsg (f : EF) (t : TgF) : SF := fun E S => RS.of (f E S) E fun d S1 => match t d E with
  | some E1 => .nx E1 S1
  | none => .bad
theorem asg_post {t : TgF} {own : List Nat} {σ : L2.St} {H : Hp} {Dn : Ends} (h : tS g W (sAsg f t) Dn σ H) : tD g W f σ H fun x H1 => tG g own t x σ H1 Dn.nx := by
  obtain ⟨ia, E, S, A, e0, q⟩ := h
  refine ⟨ia, E, S, A, e0, (PostS.ofR (rel := relD g) e0 q).mono (fun v H1 h1 => ?_) fun _ _ _ h => h⟩
  obtain ⟨ia1, y, S1, x1, A1, ra, e1, p1⟩ := h1
  cases h1 : t y E with
  | none => rw [h1] at p1; exact p1.elim
  | some E1 =>
    rw [h1] at p1
    exact ⟨ia1, E, S1, y, E1, A1, e1, ra, h1, fun σ' e' _ => p1 ia1 H1 σ' .refl A1 e'⟩
theorem ds_asg {tg : Expr} {own : List Nat} {t : TgF} (he : DE g lv X W e f) (hg : DG g lv X W tg own t) (hs : swapsWithSole [tg] e pos.line X.env = pure false := by rfl) (hw : swappedStores [tg] e X.env = pure none := by rfl)
    (h1 : (assignEach [tg] X.env).map (·.2) = [assign tg X.env] := by rfl) : DS g lv X W (.Assign [tg] e pos) (sAsg f t) := ⟨fun c => (ps_asg (he.run c) (hg.run c) hs hw h1).wk fun Dn σ H h => asg_post h⟩
theorem ds_set {i : Nat} {x : Str} {pos' : Pos} (hN : X.N.Nodup) (he : DE g lv X W e f) (hi : X.N[i]? = some x := by rfl) (hx : Loc X.env.scope x := by first | exact Or.inl rfl | exact Or.inr rfl) (hs : swapsWith e (some (.Name x pos')) pos.line X.env = pure false := by rfl)
    (hf : X.fn x = true ∨ X.env.scope.names.lookup x = some .local := by first | exact .inl rfl | exact .inr rfl | assumption) : DS g lv X W (.Assign [.Name x pos'] e pos) (sAsg f (gNm i)) := ⟨fun c => (ps_set hN hi hx (he.run c) hs hf).wk fun Dn σ H h => by
  obtain ⟨ia, E, S, A, e0, q⟩ := h
  refine ⟨ia, E, S, A, e0, (PostS.ofR (rel := relD g) e0 q).mono (fun v H1 h1 => ?_) fun _ _ _ h => h⟩
  obtain ⟨ia1, y, S1, x1, A1, ra, e1, p1⟩ := h1
  exact p1 ia1 H1 _ .refl A1 (e1.set (.some ra) i)⟩

/-! ### loops -/
/-- what is walked: at turn i it stops, or gives a value -/
structure Src where
  n : Nat
  nxt : Nat → Sto → Option (Option D)
def ItOk (g : G) (ia : List Addr) (H : Hp) (J : It) (s : Src) : Prop := ∀ ia1 H1 S1, Ext ia H ia1 H1 → Abs g ia1 H1 S1 → ∀ i, (s.nxt i S1 = some none → J.stop i H1) ∧
  ∀ d, s.nxt i S1 = some (some d) → J.go i H1 ∧ ∀ x H', J.yld i H1 x H' → ∃ ia', Ext ia1 H1 ia' H' ∧ Abs g ia' H' S1 ∧ Den g.K ia' H' x d
abbrev IF := Env → Sto → R Src
def tI (g : G) (W : WX) (s : IF) : TI := fun σ H R' => ∃ ia E S, Abs g ia H S ∧ EDen g.K ia H σ E ∧ Post g ia H (fun c d H' => W c d σ H') (ItOk g) (s E S) R'
structure DI (g : G) (lv : Nat) (X : Cx) (W : WX) (tg iter : Expr) (s : IF) : Prop where run : Ctx g lv X W → PI X tg iter (tI g W s)
theorem _root_.L2.PI.wk {X : Cx} {tg iter : Expr} {t t' : TI} (h : PI X tg iter t) (i : ∀ σ H R, t' σ H R → t σ H R) : PI X tg iter t' := ⟨fun pins s σ H R I q => h.run pins s σ H R I (i σ H R q)⟩
def forN (s : Src) (t : TgF) (b : SF) : Nat → Nat → Env → Sto → RS
  | 0, i, E, S => match s.nxt i S with
    | some none => .nx E S
    | _ => .bad
  | k + 1, i, E, S => match s.nxt i S with
    | some none => .nx E S
    | some (some d) => match t d E with
      | some E1 => match b E1 S with
        | .nx E2 S2 => forN s t b k (i + 1) E2 S2
        | .ct E2 S2 => forN s t b k (i + 1) E2 S2
        | .bk E2 S2 => .nx E2 S2
        | r => r
      | none => .bad
    | none => .bad
def sFor (s : IF) (t : TgF) (b : SF) : SF := fun E S => RS.of (s E S) E fun src S1 => forN src t b src.n 0 E S1
theorem ds_for {tg iter : Expr} {body : List Stmt} {src : IF} {t : TgF} {own : List Nat} {b : SF} (hp : PassesOwn (model X.prog X.w) X.A X.env X.xe) (hi : DI g lv X W tg iter src) (hg : DG g lv X W tg own t) (hb : DSs g lv X W body b)
    (hs : ∀ x, foldedSetIterable iter X.env x = pure x := by intro _; rfl) : DS g lv X W (.For tg iter body [] pos) (sFor src t b) := ⟨fun c => (ps_for hp c.calm (hi.run c) (hg.run c) (hb.run c) hs).wk fun Dn σ H h => by
  obtain ⟨ia, E, S, A, e0, q⟩ := h
  refine ⟨ia, E, S, A, e0, (PostS.ofR (rel := ItOk g) e0 q).mono (fun J H1 h1 => ?_) fun _ _ _ h => h⟩
  obtain ⟨ia1, sr, S1, x1, A1, ok, e1, p1⟩ := h1
  refine ⟨fun i m σ H => ∃ ia E S, Ext ia1 H1 ia H ∧ Abs g ia H S ∧ EDen g.K ia H σ E ∧ PostS g ia H W (forN sr t b m i E S) Dn, ⟨sr.n, ia1, E, S1, .refl, A1, e1, p1⟩, ?_⟩
  rintro i m σ2 H2 ⟨ia2, E2, S2, x2, A2, e2, p2⟩
  obtain ⟨k1, k2⟩ := ok ia2 H2 S2 x2 A2 i
  cases hn : sr.nxt i S2 with
  | none => cases m <;> (unfold forN at p2; rw [hn] at p2; exact p2.elim)
  | some od =>
    cases od with
    | none =>
      refine .inl ⟨k1 hn, ?_⟩
      have p3 : PostS g ia2 H2 W (.nx E2 S2) Dn := by cases m <;> (unfold forN at p2; rw [hn] at p2; exact p2)
      exact p3 ia2 H2 σ2 .refl A2 e2
    | some d =>
      obtain ⟨k3, k4⟩ := k2 d hn
      cases m with
      | zero => unfold forN at p2; rw [hn] at p2; exact p2.elim
      | succ m =>
        unfold forN at p2
        rw [hn] at p2
        simp only at p2
        refine .inr ⟨k3, fun σ' H' => ∃ ia E S, Ext ia1 H1 ia H' ∧ Abs g ia H' S ∧ EDen g.K ia H' σ' E ∧ PostS g ia H' W (forN sr t b m (i + 1) E S) Dn, fun σ' H' h => ⟨m, Nat.lt_succ_self _, h⟩, fun x H3 hy => ?_⟩
        obtain ⟨ia3, x3, A3, r3⟩ := k4 x H3 hy
        cases ht : t d E2 with
        | none => rw [ht] at p2; exact p2.elim
        | some E3 =>
          rw [ht] at p2
          simp only at p2
          refine ⟨ia3, E2, S2, d, E3, A3, e2.ext x3, r3, ht, fun σ4 e4 _ => ⟨ia3, E3, S2, A3, e4, ?_⟩⟩
          have p4 := PostS.later x3 p2
          cases hbo : b E3 S2 with
          | nx E5 S5 => rw [hbo] at p4; exact fun ia5 H5 σ5 x5 A5 e5 => ⟨ia5, E5, S5, x2.trans (x3.trans x5), A5, e5, PostS.later x5 p4⟩
          | ct E5 S5 => rw [hbo] at p4; exact fun ia5 H5 σ5 x5 A5 e5 => ⟨ia5, E5, S5, x2.trans (x3.trans x5), A5, e5, PostS.later x5 p4⟩
          | bk E5 S5 => rw [hbo] at p4; exact p4
          | rt d5 S5 => rw [hbo] at p4; exact p4
          | er x5 E5 S5 => rw [hbo] at p4; exact p4
          | bad => rw [hbo] at p4; exact p4⟩
def whileN (p : TF) (b : SF) : Nat → Env → Sto → RS
  | 0, _, _ => .bad
  | k + 1, E, S => RS.of (p E S) E fun c S1 => if c = true then match b E S1 with
      | .nx E2 S2 => whileN p b k E2 S2
      | .ct E2 S2 => whileN p b k E2 S2
      | .bk E2 S2 => .nx E2 S2
      | r => r
    else .nx E S1
def sWhile (fuel : Nat) (p : TF) (b : SF) : SF := fun E S => whileN p b fuel E S
theorem ds_while {cnd : Expr} {body : List Stmt} {b : SF} (fuel : Nat) (hp : PassesOwn (model X.prog X.w) X.A X.env X.xe) (hc : DT g lv X W cnd p) (hb : DSs g lv X W body b) : DS g lv X W (.While cnd body [] pos) (sWhile fuel p b) := ⟨fun c => (ps_while hp (hc.run c) (hb.run c)).wk fun Dn σ H h => by
  obtain ⟨ia, E, S, A, e0, q⟩ := h
  refine ⟨fun m σ H => ∃ ia E S, Abs g ia H S ∧ EDen g.K ia H σ E ∧ PostS g ia H W (whileN p b m E S) Dn, ⟨fuel, ia, E, S, A, e0, q⟩, ?_⟩
  rintro m σ2 H2 ⟨ia2, E2, S2, A2, e2, p2⟩
  cases m with
  | zero => exact p2.elim
  | succ m =>
    unfold whileN at p2
    refine ⟨ia2, E2, S2, A2, e2, (PostS.ofR (rel := relB) e2 p2).mono (fun v H1 h1 => ?_) fun _ _ _ h => h⟩
    obtain ⟨ia3, y, S3, x3, A3, rfl, e3, p3⟩ := h1
    by_cases hv : v = true
    · rw [if_pos hv] at p3 ⊢
      refine ⟨fun σ' H' => ∃ ia E S, Abs g ia H' S ∧ EDen g.K ia H' σ' E ∧ PostS g ia H' W (whileN p b m E S) Dn, fun σ' H' h => ⟨m, Nat.lt_succ_self _, h⟩, ia3, E2, S3, A3, e3, ?_⟩
      cases hbo : b E2 S3 with
      | nx E5 S5 => rw [hbo] at p3; exact fun ia5 H5 σ5 x5 A5 e5 => ⟨ia5, E5, S5, A5, e5, PostS.later x5 p3⟩
      | ct E5 S5 => rw [hbo] at p3; exact fun ia5 H5 σ5 x5 A5 e5 => ⟨ia5, E5, S5, A5, e5, PostS.later x5 p3⟩
      | bk E5 S5 => rw [hbo] at p3; exact p3
      | rt d5 S5 => rw [hbo] at p3; exact p3
      | er x5 E5 S5 => rw [hbo] at p3; exact p3
      | bad => rw [hbo] at p3; exact p3
    · rw [if_neg hv] at p3 ⊢
      exact p3 ia3 H1 σ2 .refl A3 e3⟩
/-! what may be walked -/
def srcVals (ds : List D) : Src := ⟨ds.length, fun i _ => some ds[i]?⟩
def srcList (xs : List D) (r : Nat) : Src := ⟨xs.length, fun i S => match S[r]? with
  | some (.lst xs) => some xs[i]?
  | some (.frz xs) => some xs[i]?
  | _ => none⟩
/-- a list, a tuple -/
def iSeq (f : EF) : IF := fun E S => (f E S).bind fun d S1 => match d with
  | .ref r => match S1[r]? with
    | some (.lst xs) => .ok (srcList xs r) S1
    | some (.frz xs) => .ok (srcList xs r) S1
    | _ => .bad
  | _ => .bad
def iTupF (f : EF) : IF := fun E S => (f E S).bind fun d S1 => match d with
  | .tup ds => .ok (srcVals ds) S1
  | _ => .bad
theorem SqL_of {K : PySem.W.Frag} {ia : List Addr} {H : Hp} {a : Addr} {o : O} (hg : g.K = K) (r : ORel g ia H a o) {xs : List D} (h : o = .lst xs ∨ o = .frz xs) : ∃ vs, SqL K H a vs ∧ Dens K ia H vs xs := by
  subst hg
  rcases h with rfl | rfl
  · obtain ⟨vs, h1, h2⟩ := r; exact ⟨vs, .inl (.inl h1), h2⟩
  · obtain ⟨vs, o, h1, h2⟩ := r; exact ⟨vs, .inl (.inr ⟨o, h1⟩), h2⟩
theorem itok_list {K : PySem.W.Frag} (hK : K = g.K) {ia : List Addr} {H : Hp} {a : Addr} {r : Nat} (hr : ia[r]? = some a) (xs : List D) : ItOk g ia H (Itl K a) (srcList xs r) := by
  subst hK
  intro ia1 H1 S1 x1 A1 i
  have key : ∀ {od}, (srcList xs r).nxt i S1 = some od → ∃ vs ys, SqL g.K H1 a vs ∧ Dens g.K ia1 H1 vs ys ∧ ys[i]? = od := fun {od} h => by
    unfold srcList at h
    simp only at h
    cases hs : S1[r]? with
    | none => rw [hs] at h; cases h
    | some o =>
      rw [hs] at h
      have ro := A1.obj' (x1.at hr) hs
      cases o with
      | lst ys =>
        obtain ⟨vs, h1, h2⟩ := SqL_of rfl ro (.inl rfl)
        exact ⟨vs, ys, h1, h2, Option.some.inj h⟩
      | frz ys =>
        obtain ⟨vs, h1, h2⟩ := SqL_of rfl ro (.inr rfl)
        exact ⟨vs, ys, h1, h2, Option.some.inj h⟩
      | _ => cases h
  refine ⟨fun h => ?_, fun d h => ?_⟩
  · obtain ⟨vs, ys, h1, h2, h3⟩ := key h
    exact ⟨vs, h1, by rw [h2.length]; exact List.getElem?_eq_none_iff.mp h3⟩
  · obtain ⟨vs, ys, h1, h2, h3⟩ := key h
    obtain ⟨v, e1, r1⟩ := h2.get h3
    refine ⟨⟨vs, v, h1, e1⟩, fun x H' hy => ?_⟩
    obtain ⟨rfl, hy⟩ := hy
    have := hy vs h1
    rw [e1] at this
    cases this
    exact ⟨ia1, .refl, A1, r1⟩
theorem itok_tup {K : PySem.W.Frag} (hK : K = g.K) {ia : List Addr} {H : Hp} {a : Addr} {vs : List V} {ds : List D} (hs : SqT K H a vs) (hd : Dens K ia H vs ds) : ItOk g ia H (Itt K a) (srcVals ds) := by
  subst hK
  intro ia1 H1 S1 x1 A1 i
  have h1 := x1.sqT hs
  have h2 := hd.ext x1
  refine ⟨fun h => ?_, fun d h => ?_⟩
  · have h3 : ds[i]? = none := Option.some.inj h
    exact ⟨vs, h1, by rw [h2.length]; exact List.getElem?_eq_none_iff.mp h3⟩
  · have h3 : ds[i]? = some d := Option.some.inj h
    obtain ⟨v, e1, r1⟩ := h2.get h3
    refine ⟨⟨vs, v, h1, e1⟩, fun x H' hy => ?_⟩
    obtain ⟨rfl, hy⟩ := hy
    have := hy vs h1
    rw [e1] at this
    cases this
    exact ⟨ia1, .refl, A1, r1⟩
variable {tg : Expr}
theorem di_list (h : DE g lv X W e f) : DI g lv X W tg e (iSeq f) := ⟨fun c => (pi_list (h.run c)).wk fun σ H R' h => by
  obtain ⟨ia, E, S, A, e0, p⟩ := h
  refine ⟨ia, E, S, A, e0, (Post.bind (rel := relD g) p).mono (fun v H1 h1 => ?_) fun _ _ _ h => h⟩
  obtain ⟨ia1, d, S1, x1, A1, ra, p1⟩ := h1
  cases ra with
  | @ref a r hr =>
    simp only at p1
    cases hs : S1[r]? with
    | none => rw [hs] at p1; exact p1.elim
    | some o =>
      rw [hs] at p1
      have ro := A1.obj' hr hs
      cases o with
      | lst ys =>
        obtain ⟨vs, h1, h2⟩ := SqL_of c.K.symm ro (.inl rfl)
        exact ⟨a, rfl, ⟨vs, h1⟩, p1 ia1 H1 _ .refl A1 (itok_list c.K hr ys)⟩
      | frz ys =>
        obtain ⟨vs, h1, h2⟩ := SqL_of c.K.symm ro (.inr rfl)
        exact ⟨a, rfl, ⟨vs, h1⟩, p1 ia1 H1 _ .refl A1 (itok_list c.K hr ys)⟩
      | _ => exact p1.elim
  | _ => exact p1.elim⟩
theorem di_tup (h : DE g lv X W e f) : DI g lv X W tg e (iTupF f) := ⟨fun c => (pi_tup (h.run c)).wk fun σ H R' h => by
  obtain ⟨ia, E, S, A, e0, p⟩ := h
  refine ⟨ia, E, S, A, e0, (Post.bind (rel := relD g) p).mono (fun v H1 h1 => ?_) fun _ _ _ h => h⟩
  obtain ⟨ia1, d, S1, x1, A1, ra, p1⟩ := h1
  cases ra with
  | @tup a vs ds hs rs => exact ⟨a, rfl, ⟨vs, by rw [c.K]; exact hs⟩, p1 ia1 H1 _ .refl A1 (itok_tup c.K (by rw [c.K]; exact hs) (by rw [c.K]; exact rs))⟩
  | _ => exact p1.elim⟩
def rngD (lo : Int) (n : Nat) : List D := (List.range n).map fun i : Nat => D.int (lo + (i : Int))
theorem itok_rng {ia : List Addr} {H : Hp} (lo : Int) (n : Nat) : ItOk g ia H (Itr lo n) (srcVals (rngD lo n)) := by
  intro ia1 H1 S1 x1 A1 i
  have e : (rngD lo n)[i]? = if i < n then some (.int (lo + i)) else none := by
    unfold rngD
    by_cases h : i < n
    · simp [h]
    · simp [h]
  refine ⟨fun h => ?_, fun d h => ?_⟩
  · have h3 : (rngD lo n)[i]? = none := Option.some.inj h
    rw [e] at h3
    by_cases hi : i < n
    · rw [if_pos hi] at h3; cases h3
    · exact Nat.le_of_not_lt hi
  · have h3 : (rngD lo n)[i]? = some d := Option.some.inj h
    rw [e] at h3
    by_cases hi : i < n
    · rw [if_pos hi] at h3
      cases h3
      refine ⟨hi, fun x H' hy => ?_⟩
      obtain ⟨rfl, rfl⟩ := hy
      exact ⟨ia1, .refl, A1, .int _⟩
    · rw [if_neg hi] at h3; cases h3
abbrev BIG : Int := 4611686018427387904
def iRng1D (u : AF) : IF := fun E S => (u E S).bind fun ds S1 => match ds with
  | [.int j] => if -BIG ≤ j ∧ j < BIG then .ok (srcVals (rngD 0 j.toNat)) S1 else .bad
  | _ => .bad
def iRng2D (u : AF) : IF := fun E S => (u E S).bind fun ds S1 => match ds with
  | [.int i, .int j] => if -BIG ≤ i ∧ i < BIG ∧ -BIG ≤ j ∧ j < BIG then .ok (srcVals (rngD i (j - i).toNat)) S1 else .bad
  | _ => .bad
variable {u : AF} {ppos : Pos} {a b : Expr}
theorem di_range1 (hm : X.mg "range" = none) (ha : DA g lv X W [a] u) (hg : Gl X "range" := by rfl) (hs : starEach [a] X.env = [(false, eval a X.env)] := by rfl) : DI g lv X W tg (.Call (.Name "range" ppos) [a] [] pos) (iRng1D u) := ⟨fun c => (pi_range1 hg hm (ha.run c) hs).wk fun σ H R' h => by
  obtain ⟨ia, E, S, A, e0, p⟩ := h
  refine ⟨ia, E, S, A, e0, (Post.bind (rel := relL g) p).mono (fun v H1 h1 => ?_) fun _ _ _ h => h⟩
  obtain ⟨ia1, d, S1, x1, A1, ra, p1⟩ := h1
  cases ra with
  | nil => exact p1.elim
  | cons r rs =>
    cases rs with
    | cons _ _ => cases r <;> exact p1.elim
    | nil =>
      cases r with
      | int j =>
        simp only at p1
        by_cases hj : -BIG ≤ j ∧ j < BIG
        · rw [if_pos hj] at p1
          exact ⟨j, rfl, hj.1, hj.2, p1 ia1 H1 _ .refl A1 (itok_rng 0 j.toNat)⟩
        · rw [if_neg hj] at p1; exact p1.elim
      | _ => exact p1.elim⟩
theorem di_range2 (hm : X.mg "range" = none) (ha : DA g lv X W [a, b] u) (hg : Gl X "range" := by rfl) (hs : starEach [a, b] X.env = [(false, eval a X.env), (false, eval b X.env)] := by rfl) (hs2 : starEach [b] X.env = [(false, eval b X.env)] := by rfl) : DI g lv X W tg (.Call (.Name "range" ppos) [a, b] [] pos) (iRng2D u) := ⟨fun c => (pi_range2 hg hm (ha.run c) hs hs2).wk fun σ H R' h => by
  obtain ⟨ia, E, S, A, e0, p⟩ := h
  refine ⟨ia, E, S, A, e0, (Post.bind (rel := relL g) p).mono (fun v H1 h1 => ?_) fun _ _ _ h => h⟩
  obtain ⟨ia1, d, S1, x1, A1, ra, p1⟩ := h1
  cases ra with
  | nil => exact p1.elim
  | cons r rs =>
    cases rs with
    | nil => cases r <;> exact p1.elim
    | cons r2 rs2 =>
      cases rs2 with
      | cons _ _ => cases r <;> cases r2 <;> exact p1.elim
      | nil =>
        cases r with
        | int i =>
          cases r2 with
          | int j =>
            simp only at p1
            by_cases hj : -BIG ≤ i ∧ i < BIG ∧ -BIG ≤ j ∧ j < BIG
            · rw [if_pos hj] at p1
              exact ⟨i, j, rfl, hj, p1 ia1 H1 _ .refl A1 (itok_rng i (j - i).toNat)⟩
            · rw [if_neg hj] at p1; exact p1.elim
          | _ => exact p1.elim
        | _ => cases r2 <;> exact p1.elim⟩
/-- a text's signs -/
def iStrD (f : EF) : IF := fun E S => (f E S).bind fun d S1 => match d with
  | .str s => .ok (srcVals (s.map fun c => .str [c])) S1
  | _ => .bad
theorem itok_str {ia : List Addr} {H : Hp} (s : List Nat) : ItOk g ia H (Its (T s)) (srcVals (s.map fun c => .str [c])) := by
  intro ia1 H1 S1 x1 A1 i
  refine ⟨fun h => ?_, fun d h => ?_⟩
  · have h3 : (s.map fun c => D.str [c])[i]? = none := Option.some.inj h
    have := List.getElem?_eq_none_iff.mp h3
    show (T s).cps.size ≤ i
    simpa [T] using this
  · have h3 : (s.map fun c => D.str [c])[i]? = some d := Option.some.inj h
    have hl := (List.getElem?_eq_some_iff.mp h3).1
    refine ⟨by show i < (T s).cps.size; simpa [T] using hl, fun x H' hy => ?_⟩
    obtain ⟨rfl, c, hc, rfl⟩ := hy
    have e : s[i]? = some c := by simpa [T] using hc
    simp [e] at h3
    subst h3
    exact ⟨ia1, .refl, A1, .str [c]⟩
theorem di_str (h : DE g lv X W e f) : DI g lv X W tg e (iStrD f) := ⟨fun c => (pi_str (h.run c)).wk fun σ H R' h => by
  obtain ⟨ia, E, S, A, e0, p⟩ := h
  refine ⟨ia, E, S, A, e0, (Post.bind (rel := relD g) p).mono (fun v H1 h1 => ?_) fun _ _ _ h => h⟩
  obtain ⟨ia1, d, S1, x1, A1, ra, p1⟩ := h1
  cases ra with
  | str s => exact ⟨T s, rfl, p1 ia1 H1 _ .refl A1 (itok_str s)⟩
  | _ => exact p1.elim⟩
end

/-! ### a def -/
section
variable {P : Program} {w : World} {g : G} {mg : Str → Option Value} {base : Heap}
def env0 (N : Nat) (ds : List D) : Env := ds.map some ++ List.replicate (N - ds.length) none
/-- a body run from its arguments: N slots, n parameters -/
def mDef (N n : Nat) (s : SF) (ds : List D) (S : Sto) : R D := if ds.length = n then match s (env0 N ds) S with
    | .nx _ S1 => .ok .non S1
    | .rt d S1 => .ok d S1
    | .er x _ S1 => .err x S1
    | _ => .bad
  else .bad
theorem EDen.start {ia : List Addr} {H : Hp} : ∀ {vs : List V} {ds : List D}, Dens g.K ia H vs ds → ∀ k, EDen g.K ia H (vs.map some ++ List.replicate k none) (ds.map some ++ List.replicate k none)
  | _, _, .nil, 0 => .nil
  | _, _, .nil, k + 1 => .cons .none (EDen.start .nil k)
  | _, _, .cons r t, k => .cons (.some r) (EDen.start t k)
/-- the context of a def's body -/
abbrev cxD (P : Program) (w : World) (g : G) (mg : Str → Option Value) (base : Heap) (N : List Str) (qual : Str) (sc : Scope) (f : Addr) (cdv : Value) (A : Around) (outer : List PySem.Env) (s : Shared) (H : Hp) (E : XK) : Cx :=
  cxOf (L2.CX P w) P w g.K mg base N qual sc f cdv A outer s H E
abbrev wxD (E : XK) : WX := fun cls d _ H => E cls d H
theorem fn_mk {x qual : Str} {st : Stmt} {f : Addr} {fd : FuncData} {N ps : List Str} {k : Nat} {s : SF} (F : L2.Fun g.K x qual st f fd) (Sc : FnScope N ps (defScope st)) (hb : Binds g.K fd ps [])
    (hbody : ∀ (cdv : Value) (A : Around) (outer : List PySem.Env) (s0 : Shared) (H : Hp) (E : XK), DSs g k (cxD P w g mg base N qual (defScope st) f cdv A outer s0 H E) (wxD E) (defBody st) s) : FnD P w mg base g (k + 1) f ps.length (mDef N.length ps.length s) := by
  refine ⟨⟨fd, ps, rfl, ?_, hb⟩, F.kp⟩
  refine F.okX Sc (fun vs H Q E h => h.1) (fun cdv A outer s0 H vs Q E hr h => ⟨tS g (wxD E) s, (hbody cdv A outer s0 H E).run ⟨rfl, takes_of rfl rfl rfl rfl, rfl, hr⟩, ?_⟩)
  obtain ⟨hl, ia, ds, S, A0, rd, p⟩ := h
  refine ⟨ia, env0 N.length ds, S, A0, ?_, ?_⟩
  · show EDen g.K ia H (vs.map some ++ List.replicate (N.length - vs.length) none) (ds.map some ++ List.replicate (N.length - ds.length) none)
    rw [rd.length]
    exact EDen.start rd _
  · unfold mDef at p
    rw [if_pos (by rw [← rd.length]; exact hl)] at p
    cases hs : s (env0 N.length ds) S with
    | nx E1 S1 => rw [hs] at p; exact fun ia' H' σ' x A1 _ => p ia' H' .non x A1 .non
    | rt d S1 => rw [hs] at p; exact p
    | er xx E1 S1 => rw [hs] at p; exact fun ia' H' σ' c d x A1 _ rx => p ia' H' c d x A1 rx
    | bk E1 S1 => rw [hs] at p; exact p.elim
    | ct E1 S1 => rw [hs] at p; exact p.elim
    | bad => rw [hs] at p; exact p.elim
end
end DL
end OfDL3

section OfDL4
set_option Elab.async false
set_option linter.all false
set_option maxRecDepth 100000
/-! DL4: == and != and in, over values -/
namespace DL
open PySem PySem.Spec PyProof.Rows L2
open PySem.SeqAt

def allEq (f : D → D → Option Bool) : List D → List D → Option Bool
  | [], [] => some true
  | x :: xs, y :: ys => match f x y, allEq f xs ys with
    | some a, some b => some (a && b)
    | _, _ => none
  | [], _ :: _ => some false
  | _ :: _, [] => some false
def lstO : O → Option (List D)
  | .lst xs => some xs
  | .frz xs => some xs
  | _ => none
/-- Python's ==, where it is told -/
def deq (S : Sto) : Nat → D → D → Option Bool
  | 0, _, _ => none
  | k + 1, a, b => match a, b with
    | .non, .non => some true
    | .non, .bl _ => some false
    | .non, .int _ => some false
    | .non, .str _ => some false
    | .non, .tup _ => some false
    | .bl _, .non => some false
    | .bl a, .bl b => some (a == b)
    | .bl a, .int j => some ((if a then 1 else 0) == j)
    | .bl _, .str _ => some false
    | .bl _, .tup _ => some false
    | .int _, .non => some false
    | .int i, .bl b => some (i == (if b then 1 else 0))
    | .int i, .int j => some (i == j)
    | .int _, .str _ => some false
    | .int _, .tup _ => some false
    | .str _, .non => some false
    | .str _, .bl _ => some false
    | .str _, .int _ => some false
    | .str x, .str y => some (x == y)
    | .str _, .tup _ => some false
    | .tup _, .non => some false
    | .tup _, .bl _ => some false
    | .tup _, .int _ => some false
    | .tup _, .str _ => some false
    | .tup xs, .tup ys => allEq (deq S k) xs ys
    | .ref n, .ref m => if n = m then some true else match (S[n]?).bind lstO, (S[m]?).bind lstO with
      | some xs, some ys => if xs.length = ys.length then allEq (deq S k) xs ys else some false
      | _, _ => none
    | .ref n, .tup _ => ((S[n]?).bind lstO).map fun _ => false
    | .tup _, .ref n => ((S[n]?).bind lstO).map fun _ => false
    | .ref n, .non => ((S[n]?).bind lstO).map fun _ => false
    | .ref n, .bl _ => ((S[n]?).bind lstO).map fun _ => false
    | .ref n, .int _ => ((S[n]?).bind lstO).map fun _ => false
    | .ref n, .str _ => ((S[n]?).bind lstO).map fun _ => false
    | .non, .ref n => ((S[n]?).bind lstO).map fun _ => false
    | .bl _, .ref n => ((S[n]?).bind lstO).map fun _ => false
    | .int _, .ref n => ((S[n]?).bind lstO).map fun _ => false
    | .str _, .ref n => ((S[n]?).bind lstO).map fun _ => false
/-- as compareOp asks it: two objects by what they hold -/
def deqT (S : Sto) (k : Nat) (a b : D) : Option Bool := match a, b with
  | .ref n, .ref m => match (S[n]?).bind lstO, (S[m]?).bind lstO with
      | some xs, some ys => if xs.length = ys.length then allEq (deq S k) xs ys else some false
      | _, _ => none
  | a, b => deq S (k + 1) a b

theorem allEq_refl {f : D → D → Option Bool} (h : ∀ a b, f a a = some b → b = true) : ∀ (xs : List D) (b : Bool), allEq f xs xs = some b → b = true
  | [], b, e => by simp [allEq] at e; exact e
  | x :: xs, b, e => by
    unfold allEq at e
    cases h1 : f x x with
    | none => rw [h1] at e; simp at e
    | some a =>
      cases h2 : allEq f xs xs with
      | none => rw [h1, h2] at e; simp at e
      | some c =>
        rw [h1, h2] at e
        simp at e
        rw [h x a h1, allEq_refl h xs c h2] at e
        exact e.symm
theorem deq_refl (S : Sto) : ∀ (k : Nat) (a : D) (b : Bool), deq S k a a = some b → b = true
  | 0, _, _, e => by simp [deq] at e
  | k + 1, a, b, e => by
    cases a with
    | tup xs => exact allEq_refl (deq_refl S k) xs b (by simpa [deq] using e)
    | non => simp [deq] at e; exact e
    | bl x => simp [deq] at e; exact e
    | int x => simp [deq] at e; exact e
    | str x => simp [deq] at e; exact e
    | ref n => simp [deq] at e; exact e
theorem allEq_pairs {f : D → D → Option Bool} : ∀ (xs ys : List D) (b : Bool), allEq f xs ys = some b →
    ∃ e : Nat → Bool, (∀ (j : Nat) (x y : D), xs[j]? = some x → ys[j]? = some y → f x y = some (e j)) ∧ b = ((List.range (min xs.length ys.length)).all e && xs.length == ys.length)
  | [], [], b, e => ⟨fun _ => true, fun j x y h => by simp at h, by simp [allEq] at e; simp [e]⟩
  | [], y :: ys, b, e => ⟨fun _ => true, fun j x y h => by simp at h, by simp [allEq] at e; simp [e]⟩
  | x :: xs, [], b, e => ⟨fun _ => true, fun j x y _ h => by simp at h, by simp [allEq] at e; simp [e]⟩
  | x :: xs, y :: ys, b, e => by
    unfold allEq at e
    cases h1 : f x y with
    | none => rw [h1] at e; simp at e
    | some a =>
      cases h2 : allEq f xs ys with
      | none => rw [h1, h2] at e; simp at e
      | some c =>
        rw [h1, h2] at e
        simp at e
        obtain ⟨e', p, q⟩ := allEq_pairs xs ys c h2
        refine ⟨fun j => match j with | 0 => a | j + 1 => e' j, fun j u v hu hv => ?_, ?_⟩
        · cases j with
          | zero =>
            have hu := Option.some.inj (show some x = some u from hu)
            have hv := Option.some.inj (show some y = some v from hv)
            subst hu
            subst hv
            exact h1
          | succ j => exact p j u v (by simpa using hu) (by simpa using hv)
        · rw [← e, q]
          have : min (x :: xs).length (y :: ys).length = (min xs.length ys.length) + 1 := by simp only [List.length_cons]; omega
          rw [this, List.range_succ_eq_map]
          simp [Bool.and_assoc]
          rfl

section
variable {X : Cx} {pins : List (Addr × Obj)} {σ : L2.St} {H : Hp} {s : Shared} {g : G} {ia : List Addr} {S : Sto}
/-- no tuple stands where the store's object stands -/
theorem no_tup (hK : X.K = g.K) (I : Inv X pins σ H s) (A : Abs g ia H S) {n : Nat} {a : Addr} {vs : List V} (hn : ia[n]? = some a) (ht : SqT g.K H a vs) : False := by
  obtain ⟨o, ho⟩ := A.ref hn
  have r := A.obj' hn ho
  have nt : ∀ u, H a = some u → (∀ xs, u ≠ .tup xs) ∧ ∀ ob xs, u ≠ .frz ob (.tup xs) := fun u hu => by
    cases o with
    | lst xs => obtain ⟨vs, h1, _⟩ := r; rw [h1] at hu; cases hu; exact ⟨(fun _ z => nomatch z), (fun _ _ z => nomatch z)⟩
    | frz xs => obtain ⟨vs, o, h1, _⟩ := r; rw [h1] at hu; cases hu; exact ⟨(fun _ z => nomatch z), (fun _ _ z => nomatch z)⟩
    | dic xs => obtain ⟨vs, h1, _⟩ := r; rw [h1] at hu; cases hu; exact ⟨(fun _ z => nomatch z), (fun _ _ z => nomatch z)⟩
    | lck xs => obtain ⟨o, vs, h1, _⟩ := r; rw [h1] at hu; cases hu; exact ⟨(fun _ z => nomatch z), (fun _ _ z => nomatch z)⟩
    | ins c fs => obtain ⟨C, dx, vs, _, h1, _⟩ := r; rw [h1] at hu; cases hu; exact ⟨(fun _ z => nomatch z), (fun _ _ z => nomatch z)⟩
  rcases ht with (h | ⟨ob, h⟩) | ⟨o', its, n', hk, _⟩
  · exact (nt _ h).1 _ rfl
  · exact (nt _ h).2 _ _ rfl
  · obtain ⟨u, hu⟩ := r.there
    have := (I.bs a o' (I.ok.mod.kin a o' (by rw [hK]; exact hk))).2
    rw [this] at hu; cases hu
mutual
theorem Den.uniq (hK : X.K = g.K) (I : Inv X pins σ H s) (A : Abs g ia H S) : ∀ {v : V} {d d' : D}, Den g.K ia H v d → Den g.K ia H v d' → d = d'
  | _, _, _, .non, r => by cases r; rfl
  | _, _, _, .bl b, r => by cases r; rfl
  | _, _, _, .int i, r => by cases r; rfl
  | _, _, _, .str x, r => by
    generalize hv : V.str (T x) = v at r
    cases r with
    | str y => rw [T_inj (V.str.inj hv)]
    | _ => cases hv
  | _, _, _, .tup h hs, r => by
    cases r with
    | tup h' hs' =>
      have e := I.tuple_inj (by rw [hK]; exact h) (by rw [hK]; exact h')
      subst e
      rw [Dens.uniq hK I A hs hs']
    | ref hn => exact (no_tup hK I A hn h).elim
  | _, _, _, .ref hn, r => by
    cases r with
    | tup h' hs' => exact (no_tup hK I A hn h').elim
    | ref hn' => rw [L2.nd_ix A.nd hn hn']
theorem Dens.uniq (hK : X.K = g.K) (I : Inv X pins σ H s) (A : Abs g ia H S) : ∀ {v : List V} {d d' : List D}, Dens g.K ia H v d → Dens g.K ia H v d' → d = d'
  | _, _, _, .nil, r => by cases r; rfl
  | _, _, _, .cons h t, r => by
    cases r with
    | cons h' t' => rw [Den.uniq hK I A h h', Dens.uniq hK I A t t']
end
/-- a list of the store, in the heap -/
theorem is_list (hK : X.K = g.K) (I : Inv X pins σ H s) (A : Abs g ia H S) {n : Nat} {a : Addr} {xs : List D} (hn : ia[n]? = some a) (hx : (S[n]?).bind lstO = some xs) : ∃ vs its, Dens g.K ia H vs xs ∧ Vals vs its ∧ s.heap.IsList a its.toArray := by
  cases ho : S[n]? with
  | none => rw [ho] at hx; cases hx
  | some o =>
    rw [ho] at hx
    have r := A.obj' hn ho
    have q : ∃ vs, SqL g.K H a vs ∧ Dens g.K ia H vs xs := by
      cases o with
      | lst ys => cases hx; exact SqL_of rfl r (.inl rfl)
      | frz ys => cases hx; exact SqL_of rfl r (.inr rfl)
      | _ => cases hx
    obtain ⟨vs, h1, h2⟩ := q
    obtain ⟨its, rv, pl, _⟩ := I.list (X := X) (by rw [hK]; exact h1)
    exact ⟨vs, its, h2, rv, pl.isList⟩
theorem is_tuple (hK : X.K = g.K) (I : Inv X pins σ H s) {a : Addr} {vs : List V} (h : SqT g.K H a vs) : ∃ its, Vals vs its ∧ s.heap.IsTuple a its.toArray := by
  obtain ⟨its, rv, p, _⟩ := I.tuple (X := X) (by rw [hK]; exact h)
  exact ⟨its, rv, p⟩
/-- pairs of items -/
theorem pairs_at {A0 : Around} {k : Nat} {xs ys : List D} {vs ws : List V} {its its2 : List Value} {b : Bool} (ih : ∀ (a b : D) (r : Bool) (v w : V) (u u' : Value), deq S k a b = some r → Den g.K ia H v a → Den g.K ia H w b → RelV v u → RelV w u' → EqAt A0 s u u' r)
    (h : allEq (deq S k) xs ys = some b) (d1 : Dens g.K ia H vs xs) (d2 : Dens g.K ia H ws ys) (r1 : Vals vs its) (r2 : Vals ws its2) :
    ∃ e : Nat → Bool, (∀ j (h1 : j < its.toArray.size) (h2 : j < its2.toArray.size), EqAt A0 s its.toArray[j] its2.toArray[j] (e j)) ∧ b = ((List.range (min its.toArray.size its2.toArray.size)).all e && its.toArray.size == its2.toArray.size) := by
  obtain ⟨e, p, q⟩ := allEq_pairs xs ys b h
  have l1 : its.length = xs.length := by rw [← r1.length, d1.length]
  have l2 : its2.length = ys.length := by rw [← r2.length, d2.length]
  refine ⟨e, fun j h1 h2 => ?_, by simp only [List.size_toArray, l1, l2]; exact q⟩
  simp only [List.size_toArray] at h1 h2
  have j1 : j < xs.length := by omega
  have j2 : j < ys.length := by omega
  obtain ⟨v, hv, dv⟩ := d1.get (i := j) (d := xs[j]) (by simp [j1])
  obtain ⟨w, hw, dw⟩ := d2.get (i := j) (d := ys[j]) (by simp [j2])
  obtain ⟨u, hu, ru⟩ := r1.get hv
  obtain ⟨u', hu', ru'⟩ := r2.get hw
  have e1 : its.toArray[j] = u := by
    have := (List.getElem?_eq_some_iff.mp hu).2
    simpa using this
  have e2 : its2.toArray[j] = u' := by
    have := (List.getElem?_eq_some_iff.mp hu').2
    simpa using this
  rw [e1, e2]
  exact ih _ _ _ v w u u' (p j _ _ (by simp [j1]) (by simp [j2])) dv dw ru ru'
theorem map_false {α : Type} {o : Option α} {r : Bool} (h : o.map (fun _ => false) = some r) : r = false ∧ ∃ x, o = some x := by
  cases o with
  | none => cases h
  | some x => simp at h; exact ⟨h, x, rfl⟩
theorem eq_at (hK : X.K = g.K) (I : Inv X pins σ H s) (A : Abs g ia H S) : ∀ (k : Nat) (A0 : Around), A0.units + k < cLine → ∀ (a b : D) (r : Bool) (v w : V) (u u' : Value), deq S k a b = some r → Den g.K ia H v a → Den g.K ia H w b → RelV v u → RelV w u' → EqAt A0 s u u' r
  | 0, _, _, a, b, r, v, w, u, u', h, _, _, _, _ => by simp [deq] at h
  | k + 1, A0, hu, a, b, r, v, w, u, u', h, da, db, ru, ru' => by
    have hu1 : A0.units < cLine := by omega
    have ih := eq_at hK I A k A0.in1 (by show A0.units + 1 + k < cLine; omega)
    cases da with
    | non =>
      cases ru
      cases db with
      | non => cases ru'; simp [deq] at h; subst h; exact EqAt.same _
      | bl y => cases ru'; simp [deq] at h; subst h; exact EqAt.none_bool y
      | int y => obtain ⟨t, rfl⟩ := ru'; simp [deq] at h; subst h; exact EqAt.none_int y t
      | str y => obtain ⟨t, rfl⟩ := ru'; simp [deq] at h; subst h; exact EqAt.none_str _ t
      | tup ht hs => cases ru'; simp [deq] at h; subst h; obtain ⟨its, _, p⟩ := is_tuple hK I ht; exact EqAt.none_tuple p hu1
      | ref hn => cases ru'; obtain ⟨rfl, x, hx⟩ := map_false (show _ = some r from h); obtain ⟨_, its, _, _, p⟩ := is_list hK I A hn hx; exact EqAt.none_list p hu1
    | bl x =>
      cases ru
      cases db with
      | non => cases ru'; simp [deq] at h; subst h; exact EqAt.bool_none x
      | bl y => cases ru'; simp [deq] at h; subst h; exact EqAt.bool_bool x y
      | int y => obtain ⟨t, rfl⟩ := ru'; have h := Option.some.inj (show some _ = some r from h); subst h; exact EqAt.bool_int x y t
      | str y => obtain ⟨t, rfl⟩ := ru'; simp [deq] at h; subst h; exact EqAt.bool_str x _ t
      | tup ht hs => cases ru'; simp [deq] at h; subst h; obtain ⟨its, _, p⟩ := is_tuple hK I ht; exact EqAt.bool_tuple x p hu1
      | ref hn => cases ru'; obtain ⟨rfl, z, hx⟩ := map_false (show _ = some r from h); obtain ⟨_, its, _, _, p⟩ := is_list hK I A hn hx; exact EqAt.bool_list x p hu1
    | int x =>
      obtain ⟨t, rfl⟩ := ru
      cases db with
      | non => cases ru'; simp [deq] at h; subst h; exact EqAt.int_none x t
      | bl y => cases ru'; have h := Option.some.inj (show some _ = some r from h); subst h; exact EqAt.int_bool x t y
      | int y => obtain ⟨t', rfl⟩ := ru'; have h := Option.some.inj (show some _ = some r from h); subst h; exact EqAt.int_int x t y t'
      | str y => obtain ⟨t', rfl⟩ := ru'; simp [deq] at h; subst h; exact EqAt.int_str x t _ t'
      | tup ht hs => cases ru'; simp [deq] at h; subst h; obtain ⟨its, _, p⟩ := is_tuple hK I ht; exact EqAt.int_tuple x t p hu1
      | ref hn => cases ru'; obtain ⟨rfl, z, hx⟩ := map_false (show _ = some r from h); obtain ⟨_, its, _, _, p⟩ := is_list hK I A hn hx; exact EqAt.int_list x t p hu1
    | str x =>
      obtain ⟨t, rfl⟩ := ru
      cases db with
      | non => cases ru'; simp [deq] at h; subst h; exact EqAt.str_none _ t
      | bl y => cases ru'; simp [deq] at h; subst h; exact EqAt.str_bool _ t y
      | int y => obtain ⟨t', rfl⟩ := ru'; simp [deq] at h; subst h; exact EqAt.str_int _ t y t'
      | str y =>
        obtain ⟨t', rfl⟩ := ru'
        have h := Option.some.inj (show some (x == y) = some r from h)
        subst h
        have e : (x == y) = (T x == T y) := by
          by_cases e : x = y
          · subst e; simp
          · have e2 : ¬ T x = T y := fun z => e (T_inj z)
            rw [beq_eq_false_iff_ne.mpr e, beq_eq_false_iff_ne.mpr e2]
        rw [e]
        exact EqAt.str_str _ t _ t'
      | tup ht hs => cases ru'; simp [deq] at h; subst h; obtain ⟨its, _, p⟩ := is_tuple hK I ht; exact EqAt.str_tuple _ t p hu1
      | ref hn => cases ru'; obtain ⟨rfl, z, hx⟩ := map_false (show _ = some r from h); obtain ⟨_, its, _, _, p⟩ := is_list hK I A hn hx; exact EqAt.str_list _ t p hu1
    | @tup a vs xs ht hs =>
      cases ru
      obtain ⟨its, rv, p⟩ := is_tuple hK I ht
      cases db with
      | non => cases ru'; simp [deq] at h; subst h; exact EqAt.tuple_none p hu1
      | bl y => cases ru'; simp [deq] at h; subst h; exact EqAt.tuple_bool y p hu1
      | int y => obtain ⟨t', rfl⟩ := ru'; simp [deq] at h; subst h; exact EqAt.tuple_int y t' p hu1
      | str y => obtain ⟨t', rfl⟩ := ru'; simp [deq] at h; subst h; exact EqAt.tuple_str _ t' p hu1
      | @tup b ws ys ht' hs' =>
        cases ru'
        have h : allEq (deq S k) xs ys = some r := h
        obtain ⟨its2, rv2, p2⟩ := is_tuple hK I ht'
        by_cases hab : a = b
        · subst hab
          have e : D.tup xs = D.tup ys := Den.uniq hK I A (.tup ht hs) (.tup ht' hs')
          injection e with e
          subst e
          rw [allEq_refl (deq_refl S k) xs r h]
          exact EqAt.same _
        · obtain ⟨e, q1, q2⟩ := pairs_at (A0 := A0.in1) ih h hs hs' rv rv2
          rw [q2]
          exact EqAt.of_refs hab (RcAt.tuples p p2 hu1 q1)
      | ref hn => cases ru'; obtain ⟨rfl, z, hx⟩ := map_false (show _ = some r from h); obtain ⟨_, its, _, _, p2⟩ := is_list hK I A hn hx; exact EqAt.tuple_list p p2 hu1
    | @ref a n hn =>
      cases ru
      cases db with
      | non => cases ru'; obtain ⟨rfl, z, hx⟩ := map_false (show _ = some r from h); obtain ⟨_, its, _, _, p⟩ := is_list hK I A hn hx; exact EqAt.list_none p hu1
      | bl y => cases ru'; obtain ⟨rfl, z, hx⟩ := map_false (show _ = some r from h); obtain ⟨_, its, _, _, p⟩ := is_list hK I A hn hx; exact EqAt.list_bool y p hu1
      | int y => obtain ⟨t', rfl⟩ := ru'; obtain ⟨rfl, z, hx⟩ := map_false (show _ = some r from h); obtain ⟨_, its, _, _, p⟩ := is_list hK I A hn hx; exact EqAt.list_int y t' p hu1
      | str y => obtain ⟨t', rfl⟩ := ru'; obtain ⟨rfl, z, hx⟩ := map_false (show _ = some r from h); obtain ⟨_, its, _, _, p⟩ := is_list hK I A hn hx; exact EqAt.list_str _ t' p hu1
      | tup ht' hs' => cases ru'; obtain ⟨rfl, z, hx⟩ := map_false (show _ = some r from h); obtain ⟨_, its, _, _, p⟩ := is_list hK I A hn hx; obtain ⟨its2, _, p2⟩ := is_tuple hK I ht'; exact EqAt.list_tuple p p2 hu1
      | @ref b m hm =>
        cases ru'
        by_cases hnm : n = m
        · subst hnm
          rw [hn] at hm
          have e := Option.some.inj hm
          subst e
          simp [deq] at h
          subst h
          exact EqAt.same _
        · have hab : a ≠ b := fun z => hnm (L2.nd_ix A.nd hn (by rw [z]; exact hm))
          simp only [deq, if_neg hnm] at h
          cases h1 : (S[n]?).bind lstO with
          | none => rw [h1] at h; simp at h
          | some xs =>
            cases h2 : (S[m]?).bind lstO with
            | none => rw [h1, h2] at h; simp at h
            | some ys =>
              rw [h1, h2] at h
              simp only at h
              obtain ⟨vs, its, d1, rv, p⟩ := is_list hK I A hn h1
              obtain ⟨ws, its2, d2, rv2, p2⟩ := is_list hK I A hm h2
              have l1 : its.toArray.size = xs.length := by rw [List.size_toArray, ← rv.length, d1.length]
              have l2 : its2.toArray.size = ys.length := by rw [List.size_toArray, ← rv2.length, d2.length]
              by_cases hl : xs.length = ys.length
              · rw [if_pos hl] at h
                obtain ⟨e, q1, q2⟩ := pairs_at (A0 := A0.in1) ih h d1 d2 rv rv2
                have q3 : r = (List.range its.toArray.size).all e := by
                  rw [q2]
                  have e1 : min its.toArray.size its2.toArray.size = its.toArray.size := by omega
                  have e2 : (its.toArray.size == its2.toArray.size) = true := by simp only [beq_iff_eq]; omega
                  rw [e1, e2, Bool.and_true]
                rw [q3]
                exact EqAt.of_refs hab (RcAt.lists p p2 (by omega) hu1 q1)
              · rw [if_neg hl] at h
                have h := Option.some.inj h
                subst h
                exact EqAt.of_refs hab (RcAt.lists_lengths p p2 (by simp only [bne_iff_ne]; omega) hu1)
end
end DL
end OfDL4

section OfDL5
set_option Elab.async false
set_option linter.all false
set_option maxRecDepth 100000
/-! DL5: operators, comparisons, subscripts, built-in functions and methods, over values -/
namespace DL
open PySem PySem.Spec PyProof.Rows L2
open PySem.SeqAt

theorem T_len (x : List Nat) : (T x).length = x.length := by simp [T, Str.length]
theorem T_app (x y : List Nat) : T x ++ T y = T (x ++ y) := by
  show Str.append (T x) (T y) = T (x ++ y)
  simp [Str.append, T]
theorem _root_.L2.OpR.orD {X : Cx} {f : Value → Value → Sem Value} {r r' : R2} (h : OpR X f r) (h' : OpR X f r') : OpR X f (fun x y H Q => r x y H Q ∨ r' x y H Q) := by
  intro pins s σ H x y v u Q I rx ry q
  rcases q with q | q
  · exact h pins s σ H x y v u Q I rx ry q
  · exact h' pins s σ H x y v u Q I rx ry q

section
variable {g : G} {lv : Nat} {X : Cx} {W : WX} {pos : Pos} {a b e : Expr} {f k : EF} {u : AF} {es : List Expr}
/-! ### + - * // % ** -/
def oAdd (a b : D) (S : Sto) : R D := match a, b with
  | .int i, .int j => .ok (.int (i + j)) S
  | .str x, .str y => if x.length + y.length ≤ LINE then .ok (.str (x ++ y)) S else .bad
  | .tup x, .tup y => if x.length + y.length ≤ LINE then .ok (.tup (x ++ y)) S else .bad
  | .ref n, .ref m => match S[n]?, S[m]? with
    | some (.lst x), some (.lst y) => if x.length + y.length ≤ LINE then .ok (.ref S.length) (S ++ [.lst (x ++ y)]) else .bad
    | _, _ => .bad
  | _, _ => .bad
def rAddD (K : PySem.W.Frag) : R2 := fun x y H Q => rI0 (fun i j => .int (i + j)) x y H Q ∨ (∃ i j, x = .str i ∧ y = .str j ∧ i.length + j.length ≤ sizeLine ∧ Q (.str (i ++ j)) H) ∨ rCat x y H Q ∨ rCatA K x y H Q
theorem op_addD : OpR X (binaryOp .Add) (rAddD X.K) := op_add.orD (op_add_str.orD (op_cat.orD op_catA))
theorem o2_add : Op2 g (rAddD g.K) oAdd := by
  intro ia H S x y a b Q W A rx ry p
  cases rx with
  | int i =>
    cases ry with
    | int j => exact .inl ⟨i, j, rfl, rfl, p ia H _ .refl A (.int _)⟩
    | _ => exact p.elim
  | str s =>
    cases ry with
    | str t =>
      unfold oAdd at p
      simp only at p
      by_cases hl : s.length + t.length ≤ LINE
      · rw [if_pos hl] at p
        refine .inr (.inl ⟨_, _, rfl, rfl, by rw [T_len, T_len]; exact LINE_le hl, ?_⟩)
        rw [T_app]
        exact p ia H _ .refl A (.str _)
      · rw [if_neg hl] at p; exact p.elim
    | _ => exact p.elim
  | @tup aa vs ds ht hs =>
    cases ry with
    | @tup bb ws es ht' hs' =>
      unfold oAdd at p
      simp only at p
      by_cases hl : ds.length + es.length ≤ LINE
      · rw [if_pos hl] at p
        refine .inr (.inr (.inr ⟨_, _, vs, ws, rfl, rfl, ht, ht', by rw [hs.length, hs'.length]; exact LINE_le hl, fun e => ?_, fun e1 e2 => ?_, fun e1 e2 => Post.tup A (hs.append hs') p⟩))
        · subst e
          cases hs
          exact p ia H _ .refl A (.tup ht' hs')
        · subst e2
          cases hs'
          rw [List.append_nil] at p
          exact p ia H _ .refl A (.tup ht hs)
      · rw [if_neg hl] at p; exact p.elim
    | _ => exact p.elim
  | @ref aa n hn =>
    cases ry with
    | @ref bb m hm =>
      unfold oAdd at p
      simp only at p
      cases h1 : S[n]? with
      | none => rw [h1] at p; exact p.elim
      | some o1 =>
        rw [h1] at p
        cases o1 with
        | lst x =>
          cases h2 : S[m]? with
          | none => rw [h2] at p; exact p.elim
          | some o2 =>
            rw [h2] at p
            cases o2 with
            | lst y =>
              simp only at p
              by_cases hl : x.length + y.length ≤ LINE
              · rw [if_pos hl] at p
                obtain ⟨vs, e1, d1⟩ := A.obj' hn h1
                obtain ⟨ws, e2, d2⟩ := A.obj' hm h2
                exact .inr (.inr (.inl ⟨_, _, vs, ws, rfl, rfl, e1, e2, by rw [d1.length, d2.length]; exact LINE_le hl, Post.new A (ORel.lst (d1.append d2)) p⟩))
              · rw [if_neg hl] at p; exact p.elim
            | _ => exact p.elim
        | _ => exact p.elim
    | _ => exact p.elim
  | _ => exact p.elim
theorem de_add (ha : DE g lv X W a f) (hb : DE g lv X W b k) : DE g lv X W (.BinOp a .Add b pos) (e2 oAdd f k) := de_bin (fun c => by have h := op_addD (X := X); rw [c.K] at h; exact h) o2_add ha hb
def oI (C : Int → Int → Prop) [∀ i j, Decidable (C i j)] (h : Int → Int → D) (a b : D) (S : Sto) : R D := match a, b with
  | .int i, .int j => if C i j then .ok (h i j) S else .bad
  | _, _ => .bad
theorem o2_I {C C' : Int → Int → Prop} [∀ i j, Decidable (C i j)] {h : Int → Int → D} {h' : Int → Int → V} (hC : ∀ i j, C i j → C' i j) (hd : ∀ ia H i j, Den g.K ia H (h' i j) (h i j)) : Op2 g (rI C' h') (oI C h) := by
  intro ia H S x y a b Q W A rx ry p
  cases rx with
  | int i =>
    cases ry with
    | int j =>
      unfold oI at p
      simp only at p
      by_cases hl : C i j
      · rw [if_pos hl] at p
        exact ⟨i, j, rfl, rfl, hC i j hl, p ia H _ .refl A (hd _ _ _ _)⟩
      · rw [if_neg hl] at p; exact p.elim
    | _ => exact p.elim
  | _ => exact p.elim
def oI0 (h : Int → Int → D) (a b : D) (S : Sto) : R D := match a, b with
  | .int i, .int j => .ok (h i j) S
  | _, _ => .bad
theorem o2_I0 {h : Int → Int → D} {h' : Int → Int → V} (hd : ∀ ia H i j, Den g.K ia H (h' i j) (h i j)) : Op2 g (rI0 h') (oI0 h) := by
  intro ia H S x y a b Q W A rx ry p
  cases rx with
  | int i =>
    cases ry with
    | int j => exact ⟨i, j, rfl, rfl, p ia H _ .refl A (hd _ _ _ _)⟩
    | _ => exact p.elim
  | _ => exact p.elim
def oSub := oI0 fun i j => .int (i - j)
theorem de_sub (ha : DE g lv X W a f) (hb : DE g lv X W b k) : DE g lv X W (.BinOp a .Sub b pos) (e2 oSub f k) := de_bin (fun _ => op_sub) (o2_I0 fun _ _ _ _ => .int _) ha hb
abbrev W64 : Int := 18446744073709551616
def oMul : D → D → Sto → R D := oI (fun i j => (-W64 < i ∧ i < W64) ∨ (-W64 < j ∧ j < W64)) fun i j => .int (i * j)
theorem de_mul (ha : DE g lv X W a f) (hb : DE g lv X W b k) : DE g lv X W (.BinOp a .Mult b pos) (e2 oMul f k) := de_bin (fun _ => op_mul) (o2_I (fun _ _ h => h) fun _ _ _ _ => .int _) ha hb
def oFdiv : D → D → Sto → R D := oI (fun _ j => 0 < j ∧ j < 1073741824) fun i j => .int (i / j)
theorem de_fdiv (ha : DE g lv X W a f) (hb : DE g lv X W b k) : DE g lv X W (.BinOp a .FloorDiv b pos) (e2 oFdiv f k) := de_bin (fun _ => op_fdiv) (o2_I (fun _ _ h => h) fun _ _ _ _ => .int _) ha hb
def oMod : D → D → Sto → R D := oI (fun _ j => 0 < j) fun i j => .int (i % j)
theorem de_mod (ha : DE g lv X W a f) (hb : DE g lv X W b k) : DE g lv X W (.BinOp a .Mod b pos) (e2 oMod f k) := de_bin (fun _ => op_mod) (o2_I (fun _ _ h => h) fun _ _ _ _ => .int _) ha hb
def oPow : D → D → Sto → R D := oI (fun i j => 0 ≤ j ∧ j ≤ 1000000 ∧ i.natAbs < 18446744073709551616) fun i j => .int (i ^ j.toNat)
theorem de_pow (ha : DE g lv X W a f) (hb : DE g lv X W b k) : DE g lv X W (.BinOp a .Pow b pos) (e2 oPow f k) := de_bin (fun _ => op_pow) (o2_I (fun _ _ h => h) fun _ _ _ _ => .int _) ha hb
def oBitAnd := oI0 fun i j => .int (Builtin.bitAnd i j)
theorem de_bitand (ha : DE g lv X W a f) (hb : DE g lv X W b k) : DE g lv X W (.BinOp a .BitAnd b pos) (e2 oBitAnd f k) := de_bin (fun _ => op_and) (o2_I0 fun _ _ _ _ => .int _) ha hb
def oRep (a b : D) (S : Sto) : R D := match a, b with
  | .ref n, .int j => match S[n]? with
    | some (.lst x) => if 0 ≤ j ∧ j < BIG ∧ x.length * j.toNat ≤ LINE then .ok (.ref S.length) (S ++ [.lst (List.replicate j.toNat x).flatten]) else .bad
    | _ => .bad
  | _, _ => .bad
theorem Dens.rep {K : PySem.W.Frag} {ia : List Addr} {H : Hp} {vs : List V} {ds : List D} (h : Dens K ia H vs ds) : ∀ n : Nat, Dens K ia H (List.replicate n vs).flatten (List.replicate n ds).flatten
  | 0 => .nil
  | n + 1 => by
    rw [List.replicate_succ, List.replicate_succ, List.flatten_cons, List.flatten_cons]
    exact h.append (Dens.rep h n)
theorem o2_rep : Op2 g rRep oRep := by
  intro ia H S x y a b Q W A rx ry p
  cases rx with
  | @ref aa n hn =>
    cases ry with
    | int j =>
      unfold oRep at p
      simp only at p
      cases h1 : S[n]? with
      | none => rw [h1] at p; exact p.elim
      | some o1 =>
        rw [h1] at p
        cases o1 with
        | lst x =>
          simp only at p
          by_cases hl : 0 ≤ j ∧ j < BIG ∧ x.length * j.toNat ≤ LINE
          · rw [if_pos hl] at p
            obtain ⟨vs, e1, d1⟩ := A.obj' hn h1
            have h2 : j < 4611686018427387904 := hl.2.1
            refine ⟨_, j, vs, rfl, rfl, e1, by omega, by omega, by rw [d1.length]; exact LINE_le hl.2.2, Post.new A (ORel.lst (d1.rep j.toNat)) p⟩
          · rw [if_neg hl] at p; exact p.elim
        | _ => exact p.elim
    | _ => exact p.elim
  | _ => exact p.elim
theorem de_rep (ha : DE g lv X W a f) (hb : DE g lv X W b k) : DE g lv X W (.BinOp a .Mult b pos) (e2 oRep f k) := de_bin (fun _ => op_rep) o2_rep ha hb
def oNeg (a : D) (S : Sto) : R D := match a with
  | .int i => .ok (.int (-i)) S
  | _ => .bad
theorem de_neg (ha : DE g lv X W a f) : DE g lv X W (.UnaryOp .USub a pos) (e1 oNeg f) := de_un (fun _ => un_neg) (fun ia H S x a Q W A rx p => by
  cases rx with
  | int i => exact ⟨i, rfl, p ia H _ .refl A (.int _)⟩
  | _ => exact p.elim) ha

/-! ### < <= > >= -/
def oLt (a b : D) (S : Sto) : R D := match a, b with
  | .int i, .int j => .ok (.bl (decide (i < j))) S
  | _, _ => .bad
def oLe := oI0 fun i j => .bl (decide (i ≤ j))
def oGt := oI0 fun i j => .bl (decide (j < i))
def oGe := oI0 fun i j => .bl (decide (j ≤ i))
theorem o2_lt : Op2 g (rI0 fun i j => .bl (decide (i < j))) oLt := by
  intro ia H S x y a b Q W A rx ry p
  cases rx with
  | int i =>
    cases ry with
    | int j => exact ⟨i, j, rfl, rfl, p ia H _ .refl A (.bl _)⟩
    | _ => exact p.elim
  | _ => exact p.elim
theorem de_lt (ha : DE g lv X W a f) (hb : DE g lv X W b k) : DE g lv X W (.Compare a [.Lt] [b] pos) (e2 oLt f k) := de_cmp (fun _ => op_lt) o2_lt ha hb
theorem de_le (ha : DE g lv X W a f) (hb : DE g lv X W b k) : DE g lv X W (.Compare a [.LtE] [b] pos) (e2 oLe f k) := de_cmp (fun _ => op_le) (o2_I0 fun _ _ _ _ => .bl _) ha hb
theorem de_gt (ha : DE g lv X W a f) (hb : DE g lv X W b k) : DE g lv X W (.Compare a [.Gt] [b] pos) (e2 oGt f k) := de_cmp (fun _ => op_gt) (o2_I0 fun _ _ _ _ => .bl _) ha hb
theorem de_ge (ha : DE g lv X W a f) (hb : DE g lv X W b k) : DE g lv X W (.Compare a [.GtE] [b] pos) (e2 oGe f k) := de_cmp (fun _ => op_ge) (o2_I0 fun _ _ _ _ => .bl _) ha hb
theorem dt_lt (ha : DE g lv X W a f) (hb : DE g lv X W b k) : DT g lv X W (.Compare a [.Lt] [b] pos) (tOfE (e2 oLt f k)) := dt_cmp (fun _ => op_lt) o2_lt ha hb
theorem dt_le (ha : DE g lv X W a f) (hb : DE g lv X W b k) : DT g lv X W (.Compare a [.LtE] [b] pos) (tOfE (e2 oLe f k)) := dt_cmp (fun _ => op_le) (o2_I0 fun _ _ _ _ => .bl _) ha hb
theorem dt_gt (ha : DE g lv X W a f) (hb : DE g lv X W b k) : DT g lv X W (.Compare a [.Gt] [b] pos) (tOfE (e2 oGt f k)) := dt_cmp (fun _ => op_gt) (o2_I0 fun _ _ _ _ => .bl _) ha hb
theorem dt_ge (ha : DE g lv X W a f) (hb : DE g lv X W b k) : DT g lv X W (.Compare a [.GtE] [b] pos) (tOfE (e2 oGe f k)) := dt_cmp (fun _ => op_ge) (o2_I0 fun _ _ _ _ => .bl _) ha hb
/-! ### is None -/
def isNon : D → Bool
  | .non => true
  | _ => false
def oIsN (a b : D) (S : Sto) : R D := match b with
  | .non => .ok (.bl (isNon a)) S
  | _ => .bad
def oIsNotN (a b : D) (S : Sto) : R D := match b with
  | .non => .ok (.bl (!isNon a)) S
  | _ => .bad
theorem Den.isNon {K : PySem.W.Frag} {ia : List Addr} {H : Hp} {v : V} {d : D} (r : Den K ia H v d) : decide (v = .non) = DL.isNon d := by
  cases r <;> simp [DL.isNon]
theorem o2_isN : Op2 g (fun x y H Q => y = .non ∧ Q (.bl (decide (x = .non))) H) oIsN := by
  intro ia H S x y a b Q W A rx ry p
  cases ry with
  | non => exact ⟨rfl, by rw [rx.isNon]; exact p ia H _ .refl A (.bl _)⟩
  | _ => exact p.elim
theorem o2_isNotN : Op2 g (fun x y H Q => y = .non ∧ Q (.bl (!decide (x = .non))) H) oIsNotN := by
  intro ia H S x y a b Q W A rx ry p
  cases ry with
  | non => exact ⟨rfl, by rw [rx.isNon]; exact p ia H _ .refl A (.bl _)⟩
  | _ => exact p.elim
theorem de_is (ha : DE g lv X W a f) (hb : DE g lv X W b k) : DE g lv X W (.Compare a [.Is] [b] pos) (e2 oIsN f k) := de_cmp (fun _ => op_isN) o2_isN ha hb
theorem de_isnot (ha : DE g lv X W a f) (hb : DE g lv X W b k) : DE g lv X W (.Compare a [.IsNot] [b] pos) (e2 oIsNotN f k) := de_cmp (fun _ => op_notN) o2_isNotN ha hb
theorem dt_is (ha : DE g lv X W a f) (hb : DE g lv X W b k) : DT g lv X W (.Compare a [.Is] [b] pos) (tOfE (e2 oIsN f k)) := dt_cmp (fun _ => op_isN) o2_isN ha hb
theorem dt_isnot (ha : DE g lv X W a f) (hb : DE g lv X W b k) : DT g lv X W (.Compare a [.IsNot] [b] pos) (tOfE (e2 oIsNotN f k)) := dt_cmp (fun _ => op_notN) o2_isNotN ha hb

/-! ### == != -/
abbrev EQK : Nat := 60
def oEq (a b : D) (S : Sto) : R D := match deqT S EQK a b with
  | some r => .ok (.bl r) S
  | none => .bad
def oNe (a b : D) (S : Sto) : R D := match deqT S EQK a b with
  | some r => .ok (.bl (!r)) S
  | none => .bad
def rEqX (g : G) (n : Bool → Bool) : R2 := fun x y H Q => ∃ ia S a b r, Abs g ia H S ∧ Den g.K ia H x a ∧ Den g.K ia H y b ∧ deqT S EQK a b = some r ∧ Q (.bl (n r)) H
theorem str_beq (x y : List Nat) : (T x == T y) = (x == y) := by
  by_cases e : x = y
  · subst e; simp
  · have e2 : ¬ T x = T y := fun z => e (T_inj z)
    rw [beq_eq_false_iff_ne.mpr e, beq_eq_false_iff_ne.mpr e2]
/-- the top-level comparison -/
theorem rc_at {pins : List (Addr × Obj)} {σ : L2.St} {H : Hp} {s : Shared} {ia : List Addr} {S : Sto} (hK : X.K = g.K) (I : Inv X pins σ H s) (A : Abs g ia H S) (A0 : Around) (hu : A0.units + EQK + 1 < cLine) {a b : D} {r : Bool} {v w : V} {u u' : Value}
    (h : deqT S EQK a b = some r) (da : Den g.K ia H v a) (db : Den g.K ia H w b) (ru : RelV v u) (ru' : RelV w u') : RcAt A0 s u u' r ∧ RcNeAt A0 s u u' (!r) := by
  have hu1 : A0.units < cLine := by omega
  have ih := eq_at hK I A EQK A0.in1 (by show A0.units + 1 + EQK < cLine; omega)
  cases da with
  | non =>
    cases ru
    cases db with
    | non => cases ru'; cases h; exact ⟨RcAt.none_none, RcNeAt.none_none⟩
    | bl y => cases ru'; cases h; exact ⟨RcAt.none_bool y, RcNeAt.none_bool y⟩
    | int y => obtain ⟨t, rfl⟩ := ru'; cases h; exact ⟨RcAt.none_int y t, RcNeAt.none_int y t⟩
    | str y => obtain ⟨t, rfl⟩ := ru'; cases h; exact ⟨RcAt.none_str _ t, RcNeAt.none_str _ t⟩
    | tup ht hs => cases ru'; cases h; obtain ⟨its, _, p⟩ := is_tuple hK I ht; exact ⟨RcAt.none_tuple p hu1, RcNeAt.none_tuple p hu1⟩
    | ref hn => cases ru'; obtain ⟨rfl, x, hx⟩ := map_false (show _ = some r from h); obtain ⟨_, its, _, _, p⟩ := is_list hK I A hn hx; exact ⟨RcAt.none_list p hu1, RcNeAt.none_list p hu1⟩
  | bl x =>
    cases ru
    cases db with
    | non => cases ru'; cases h; exact ⟨RcAt.bool_none x, RcNeAt.bool_none x⟩
    | bl y => cases ru'; cases h; exact ⟨RcAt.bool_bool x y, RcNeAt.bool_bool x y⟩
    | int y => obtain ⟨t, rfl⟩ := ru'; cases h; exact ⟨RcAt.bool_int x y t, RcNeAt.bool_int x y t⟩
    | str y => obtain ⟨t, rfl⟩ := ru'; cases h; exact ⟨RcAt.bool_str x _ t, RcNeAt.bool_str x _ t⟩
    | tup ht hs => cases ru'; cases h; obtain ⟨its, _, p⟩ := is_tuple hK I ht; exact ⟨RcAt.bool_tuple x p hu1, RcNeAt.bool_tuple x p hu1⟩
    | ref hn => cases ru'; obtain ⟨rfl, z, hx⟩ := map_false (show _ = some r from h); obtain ⟨_, its, _, _, p⟩ := is_list hK I A hn hx; exact ⟨RcAt.bool_list x p hu1, RcNeAt.bool_list x p hu1⟩
  | int x =>
    obtain ⟨t, rfl⟩ := ru
    cases db with
    | non => cases ru'; cases h; exact ⟨RcAt.int_none x t, RcNeAt.int_none x t⟩
    | bl y => cases ru'; cases h; exact ⟨RcAt.int_bool x t y, RcNeAt.int_bool x t y⟩
    | int y => obtain ⟨t', rfl⟩ := ru'; cases h; exact ⟨RcAt.int_int x t y t', RcNeAt.int_int x t y t'⟩
    | str y => obtain ⟨t', rfl⟩ := ru'; cases h; exact ⟨RcAt.int_str x t _ t', RcNeAt.int_str x t _ t'⟩
    | tup ht hs => cases ru'; cases h; obtain ⟨its, _, p⟩ := is_tuple hK I ht; exact ⟨RcAt.int_tuple x t p hu1, RcNeAt.int_tuple x t p hu1⟩
    | ref hn => cases ru'; obtain ⟨rfl, z, hx⟩ := map_false (show _ = some r from h); obtain ⟨_, its, _, _, p⟩ := is_list hK I A hn hx; exact ⟨RcAt.int_list x t p hu1, RcNeAt.int_list x t p hu1⟩
  | str x =>
    obtain ⟨t, rfl⟩ := ru
    cases db with
    | non => cases ru'; cases h; exact ⟨RcAt.str_none _ t, RcNeAt.str_none _ t⟩
    | bl y => cases ru'; cases h; exact ⟨RcAt.str_bool _ t y, RcNeAt.str_bool _ t y⟩
    | int y => obtain ⟨t', rfl⟩ := ru'; cases h; exact ⟨RcAt.str_int _ t y t', RcNeAt.str_int _ t y t'⟩
    | str y =>
      obtain ⟨t', rfl⟩ := ru'
      have h := Option.some.inj (show some (x == y) = some r from h)
      subst h
      rw [← str_beq]
      exact ⟨RcAt.str_str _ t _ t', RcNeAt.str_str _ t _ t'⟩
    | tup ht hs => cases ru'; cases h; obtain ⟨its, _, p⟩ := is_tuple hK I ht; exact ⟨RcAt.str_tuple _ t p hu1, RcNeAt.str_tuple _ t p hu1⟩
    | ref hn => cases ru'; obtain ⟨rfl, z, hx⟩ := map_false (show _ = some r from h); obtain ⟨_, its, _, _, p⟩ := is_list hK I A hn hx; exact ⟨RcAt.str_list _ t p hu1, RcNeAt.str_list _ t p hu1⟩
  | @tup a vs xs ht hs =>
    cases ru
    obtain ⟨its, rv, p⟩ := is_tuple hK I ht
    cases db with
    | non => cases ru'; cases h; exact ⟨RcAt.tuple_none p hu1, RcNeAt.tuple_none p hu1⟩
    | bl y => cases ru'; cases h; exact ⟨RcAt.tuple_bool y p hu1, RcNeAt.tuple_bool y p hu1⟩
    | int y => obtain ⟨t', rfl⟩ := ru'; cases h; exact ⟨RcAt.tuple_int y t' p hu1, RcNeAt.tuple_int y t' p hu1⟩
    | str y => obtain ⟨t', rfl⟩ := ru'; cases h; exact ⟨RcAt.tuple_str _ t' p hu1, RcNeAt.tuple_str _ t' p hu1⟩
    | @tup b ws ys ht' hs' =>
      cases ru'
      have h : allEq (deq S EQK) xs ys = some r := h
      obtain ⟨its2, rv2, p2⟩ := is_tuple hK I ht'
      obtain ⟨e, q1, q2⟩ := pairs_at (A0 := A0.in1) ih h hs hs' rv rv2
      rw [q2]
      exact ⟨RcAt.tuples p p2 hu1 q1, RcNeAt.tuples p p2 hu1 q1⟩
    | ref hn => cases ru'; obtain ⟨rfl, z, hx⟩ := map_false (show _ = some r from h); obtain ⟨_, its, _, _, p2⟩ := is_list hK I A hn hx; exact ⟨RcAt.tuple_list p p2 hu1, RcNeAt.tuple_list p p2 hu1⟩
  | @ref a n hn =>
    cases ru
    cases db with
    | non => cases ru'; obtain ⟨rfl, z, hx⟩ := map_false (show _ = some r from h); obtain ⟨_, its, _, _, p⟩ := is_list hK I A hn hx; exact ⟨RcAt.list_none p hu1, RcNeAt.list_none p hu1⟩
    | bl y => cases ru'; obtain ⟨rfl, z, hx⟩ := map_false (show _ = some r from h); obtain ⟨_, its, _, _, p⟩ := is_list hK I A hn hx; exact ⟨RcAt.list_bool y p hu1, RcNeAt.list_bool y p hu1⟩
    | int y => obtain ⟨t', rfl⟩ := ru'; obtain ⟨rfl, z, hx⟩ := map_false (show _ = some r from h); obtain ⟨_, its, _, _, p⟩ := is_list hK I A hn hx; exact ⟨RcAt.list_int y t' p hu1, RcNeAt.list_int y t' p hu1⟩
    | str y => obtain ⟨t', rfl⟩ := ru'; obtain ⟨rfl, z, hx⟩ := map_false (show _ = some r from h); obtain ⟨_, its, _, _, p⟩ := is_list hK I A hn hx; exact ⟨RcAt.list_str _ t' p hu1, RcNeAt.list_str _ t' p hu1⟩
    | tup ht' hs' => cases ru'; obtain ⟨rfl, z, hx⟩ := map_false (show _ = some r from h); obtain ⟨_, its, _, _, p⟩ := is_list hK I A hn hx; obtain ⟨its2, _, p2⟩ := is_tuple hK I ht'; exact ⟨RcAt.list_tuple p p2 hu1, RcNeAt.list_tuple p p2 hu1⟩
    | @ref b m hm =>
      cases ru'
      unfold deqT at h
      simp only at h
      cases h1 : (S[n]?).bind lstO with
      | none => rw [h1] at h; simp at h
      | some xs =>
        cases h2 : (S[m]?).bind lstO with
        | none => rw [h1, h2] at h; simp at h
        | some ys =>
          rw [h1, h2] at h
          simp only at h
          obtain ⟨vs, its, d1, rv, p⟩ := is_list hK I A hn h1
          obtain ⟨ws, its2, d2, rv2, p2⟩ := is_list hK I A hm h2
          have l1 : its.toArray.size = xs.length := by rw [List.size_toArray, ← rv.length, d1.length]
          have l2 : its2.toArray.size = ys.length := by rw [List.size_toArray, ← rv2.length, d2.length]
          by_cases hl : xs.length = ys.length
          · rw [if_pos hl] at h
            obtain ⟨e, q1, q2⟩ := pairs_at (A0 := A0.in1) ih h d1 d2 rv rv2
            have q3 : r = (List.range its.toArray.size).all e := by
              rw [q2]
              have e1 : min its.toArray.size its2.toArray.size = its.toArray.size := by omega
              have e2 : (its.toArray.size == its2.toArray.size) = true := by simp only [beq_iff_eq]; omega
              rw [e1, e2, Bool.and_true]
            rw [q3]
            exact ⟨RcAt.lists p p2 (by omega) hu1 q1, RcNeAt.lists p p2 (by omega) hu1 q1⟩
          · rw [if_neg hl] at h
            have h := Option.some.inj h
            subst h
            exact ⟨RcAt.lists_lengths p p2 (by simp only [bne_iff_ne]; omega) hu1, RcNeAt.lists_lengths p p2 (by simp only [bne_iff_ne]; omega) hu1⟩
theorem op_eqX (c : Ctx g lv X W) : OpR X (compareOp .Eq) (rEqX g id) := by
  intro pins s σ H x y v u Q I rx ry ⟨ia, S, a, b, r, A, da, db, h, q⟩
  have hu := c.hu
  exact (rc_at c.K I A X.A (by show X.A.units + 60 + 1 < cLine; omega) h da db rx ry).1 _ _ _ _ ⟨.bl r, H, I, rfl, q⟩
theorem op_neX (c : Ctx g lv X W) : OpR X (compareOp .NotEq) (rEqX g not) := by
  intro pins s σ H x y v u Q I rx ry ⟨ia, S, a, b, r, A, da, db, h, q⟩
  have hu := c.hu
  exact (rc_at c.K I A X.A (by show X.A.units + 60 + 1 < cLine; omega) h da db rx ry).2 _ _ _ _ ⟨.bl (!r), H, I, rfl, q⟩
theorem o2_eq : Op2 g (rEqX g id) oEq := by
  intro ia H S x y a b Q W A rx ry p
  unfold oEq at p
  cases h : deqT S EQK a b with
  | none => rw [h] at p; exact p.elim
  | some r => rw [h] at p; exact ⟨ia, S, a, b, r, A, rx, ry, h, p ia H _ .refl A (.bl _)⟩
theorem o2_ne : Op2 g (rEqX g not) oNe := by
  intro ia H S x y a b Q W A rx ry p
  unfold oNe at p
  cases h : deqT S EQK a b with
  | none => rw [h] at p; exact p.elim
  | some r => rw [h] at p; exact ⟨ia, S, a, b, r, A, rx, ry, h, p ia H _ .refl A (.bl _)⟩
theorem de_eq (ha : DE g lv X W a f) (hb : DE g lv X W b k) : DE g lv X W (.Compare a [.Eq] [b] pos) (e2 oEq f k) := de_cmp op_eqX o2_eq ha hb
theorem de_ne (ha : DE g lv X W a f) (hb : DE g lv X W b k) : DE g lv X W (.Compare a [.NotEq] [b] pos) (e2 oNe f k) := de_cmp op_neX o2_ne ha hb
theorem dt_eq (ha : DE g lv X W a f) (hb : DE g lv X W b k) : DT g lv X W (.Compare a [.Eq] [b] pos) (tOfE (e2 oEq f k)) := dt_cmp op_eqX o2_eq ha hb
theorem dt_ne (ha : DE g lv X W a f) (hb : DE g lv X W b k) : DT g lv X W (.Compare a [.NotEq] [b] pos) (tOfE (e2 oNe f k)) := dt_cmp op_neX o2_ne ha hb
end
end DL
end OfDL5

section OfDL6
set_option Elab.async false
set_option linter.all false
set_option maxRecDepth 100000
/-! DL6: dicts, in, subscripts, slices, built-in functions -/
namespace DL
open PySem PySem.Spec PyProof.Rows L2
open PySem.SeqAt

/-! ### dicts, plainly -/
def keq : D → D → Bool
  | .int i, .int j => i == j
  | .str x, .str y => x == y
  | _, _ => false
def dGet (kvs : List (D × D)) (a : D) : Option D := (kvs.find? fun p => keq p.1 a).map (·.2)
def dPut (kvs : List (D × D)) (a v : D) : List (D × D) := if (kvs.any fun p => keq p.1 a) = true then kvs.map (fun p => if keq p.1 a = true then (p.1, v) else p) else kvs ++ [(a, v)]
def dDel (kvs : List (D × D)) (a : D) : List (D × D) := kvs.filter fun p => !keq p.1 a
theorem keyD_keq {a b : D} {k j : Key} (ha : keyD a = some k) (hb : keyD b = some j) : keq a b = decide (k = j) := by
  cases a <;> simp [keyD] at ha <;> cases b <;> simp [keyD] at hb <;> subst ha <;> subst hb <;> simp [keq]
  · rename_i x y
    by_cases e : x = y
    · subst e; simp
    · simp [e]
  · rename_i x y
    by_cases e : x = y
    · subst e; simp
    · simp [e]
section
variable {K : PySem.W.Frag} {ia : List Addr} {H : Hp} {a : D} {k : Key}
theorem KRel.keq {p : D × D} {q : Key × V} (r : KRel K ia H p q) (ha : keyD a = some k) : DL.keq p.1 a = decide (q.1 = k) := keyD_keq r.1 ha
theorem dGet_ok (ha : keyD a = some k) : ∀ {kvs : List (D × D)} {vs : List (Key × V)}, Paired (KRel K ia H) kvs vs → (dGet kvs a = none ∧ valV vs k = none) ∨ ∃ d v, dGet kvs a = some d ∧ valV vs k = some v ∧ Den K ia H v d
  | _, _, .nil => .inl ⟨rfl, rfl⟩
  | p :: kvs, q :: vs, .cons r t => by
    have e := r.keq ha
    by_cases h : q.1 = k
    · rw [decide_eq_true h] at e
      exact .inr ⟨p.2, q.2, by simp [dGet, e], valV_pos h, r.2⟩
    · rw [decide_eq_false h] at e
      have e1 : dGet (p :: kvs) a = dGet kvs a := by simp [dGet, e]
      rw [e1, valV_neg h]
      exact dGet_ok ha t
theorem dAny_ok (ha : keyD a = some k) : ∀ {kvs : List (D × D)} {vs : List (Key × V)}, Paired (KRel K ia H) kvs vs → (kvs.any fun p => keq p.1 a) = vs.any fun kv => decide (kv.1 = k)
  | _, _, .nil => rfl
  | p :: kvs, q :: vs, .cons r t => by
    rw [List.any_cons, List.any_cons, r.keq ha, dAny_ok ha t]
theorem pair_append {α β : Type} {F : α → β → Prop} : ∀ {l l' : List α} {m m' : List β}, Paired F l m → Paired F l' m' → Paired F (l ++ l') (m ++ m')
  | _, _, _, _, .nil, s => s
  | _, _, _, _, .cons r t, s => .cons r (pair_append t s)
theorem dPut_ok (ha : keyD a = some k) {v : V} {d : D} (rv : Den K ia H v d) {kvs : List (D × D)} {vs : List (Key × V)} (r : Paired (KRel K ia H) kvs vs) : Paired (KRel K ia H) (dPut kvs a d) (putK vs k v) := by
  unfold dPut putK
  rw [dAny_ok ha r]
  by_cases h : (vs.any fun kv => decide (kv.1 = k)) = true
  · rw [if_pos h, if_pos h]
    clear h
    induction r with
    | nil => exact .nil
    | @cons p q _ _ r t ih =>
      rw [List.map_cons, List.map_cons]
      refine .cons ?_ ih
      have e := r.keq ha
      by_cases h2 : q.1 = k
      · rw [decide_eq_true h2] at e
        rw [if_pos e, if_pos h2]
        exact ⟨r.1, rv⟩
      · rw [decide_eq_false h2] at e
        rw [if_neg (by rw [e]; simp), if_neg h2]
        exact r
  · rw [if_neg h, if_neg h]
    exact pair_append r (.cons ⟨ha, rv⟩ .nil)
theorem dDel_ok (ha : keyD a = some k) {kvs : List (D × D)} {vs : List (Key × V)} (r : Paired (KRel K ia H) kvs vs) : Paired (KRel K ia H) (dDel kvs a) (dropK vs k) := by
  unfold dDel dropK
  induction r with
  | nil => exact .nil
  | @cons p q _ _ r t ih =>
    have e := r.keq ha
    by_cases h2 : q.1 = k
    · rw [decide_eq_true h2] at e
      have e2 : decide (q.1 ≠ k) = false := by simp [h2]
      rw [List.filter_cons_of_neg (by simp [e]), List.filter_cons_of_neg (by simp [h2])]
      exact ih
    · rw [decide_eq_false h2] at e
      rw [List.filter_cons_of_pos (by simp [e]), List.filter_cons_of_pos (by simp [h2])]
      exact .cons r ih
theorem keyD_den {v : V} (ha : keyD a = some k) (r : Den K ia H v a) : v = kV k := by
  cases r <;> simp [keyD] at ha <;> subst ha <;> rfl
end
/-- a dict of the store -/
def dicO : O → Option (List (D × D))
  | .dic kvs => some kvs
  | .lck kvs => some kvs
  | _ => none
theorem dic_at {g : G} {ia : List Addr} {H : Hp} {S : Sto} (A : Abs g ia H S) {n : Nat} {a : Addr} {kvs : List (D × D)} (hn : ia[n]? = some a) (h : (S[n]?).bind dicO = some kvs) : ∃ vs, Rd H a (.dK vs) ∧ Paired (KRel g.K ia H) kvs vs := by
  cases ho : S[n]? with
  | none => rw [ho] at h; cases h
  | some o =>
    rw [ho] at h
    have r := A.obj' hn ho
    cases o with
    | dic ys => cases h; obtain ⟨vs, h1, h2⟩ := r; exact ⟨vs, .inl h1, h2⟩
    | lck ys => cases h; obtain ⟨o, vs, h1, h2⟩ := r; exact ⟨vs, .inr ⟨o, h1⟩, h2⟩
    | _ => cases h

/-! ### in -/
def anyEq (f : D → Option Bool) : List D → Option Bool
  | [] => some false
  | y :: ys => match f y, anyEq f ys with
    | some a, some b => some (a || b)
    | _, _ => none
theorem any_of {f : D → Option Bool} {e : Value → Bool} : ∀ (ds : List D) (us : List Value) (b : Bool), ds.length = us.length → (∀ (j : Nat) (d : D) (u : Value), ds[j]? = some d → us[j]? = some u → ∀ r, f d = some r → e u = r) → anyEq f ds = some b → us.any e = b
  | [], [], b, _, _, h => by simp [anyEq] at h; simp [h]
  | [], _ :: _, _, h, _, _ => by simp at h
  | _ :: _, [], _, h, _, _ => by simp at h
  | d :: ds, u :: us, b, hl, hj, h => by
    unfold anyEq at h
    cases h1 : f d with
    | none => rw [h1] at h; simp at h
    | some a =>
      cases h2 : anyEq f ds with
      | none => rw [h1, h2] at h; simp at h
      | some c =>
        rw [h1, h2] at h
        simp at h
        rw [List.any_cons, hj 0 d u rfl rfl a h1, any_of ds us c (by simpa using hl) (fun j d u hd hu => hj (j + 1) d u (by simpa using hd) (by simpa using hu)) h2, h]
theorem anyEq_all {f : D → Option Bool} : ∀ {ds : List D} {b : Bool}, anyEq f ds = some b → ∀ (j : Nat) (d : D), ds[j]? = some d → ∃ r, f d = some r
  | [], _, _, j, d, h => by simp at h
  | d :: ds, b, h, j, x, hx => by
    unfold anyEq at h
    cases h1 : f d with
    | none => rw [h1] at h; simp at h
    | some a =>
      cases h2 : anyEq f ds with
      | none => rw [h1, h2] at h; simp at h
      | some c =>
        cases j with
        | zero => simp at hx; subst hx; exact ⟨a, h1⟩
        | succ j => exact anyEq_all h2 j x (by simpa using hx)
def substr (x y : List Nat) : Bool := (List.range (y.length + 1)).any fun i => (y.drop i).take x.length == x
def oInB (a b : D) (S : Sto) : Option Bool := match b with
  | .tup ds => anyEq (fun y => deq S EQK y a) ds
  | .str y => match a with
    | .str x => some (substr x y)
    | _ => none
  | .ref n => match S[n]? with
    | some (.lst ds) => anyEq (fun y => deq S EQK y a) ds
    | some (.frz ds) => anyEq (fun y => deq S EQK y a) ds
    | some (.dic kvs) => (keyD a).map fun _ => (dGet kvs a).isSome
    | some (.lck kvs) => (keyD a).map fun _ => (dGet kvs a).isSome
    | _ => none
  | _ => none
def oIn (a b : D) (S : Sto) : R D := match oInB a b S with
  | some r => .ok (.bl r) S
  | none => .bad
def oNotIn (a b : D) (S : Sto) : R D := match oInB a b S with
  | some r => .ok (.bl (!r)) S
  | none => .bad
def rInX (g : G) (n : Bool → Bool) : R2 := fun x y H Q => ∃ ia S a b r, Abs g ia H S ∧ Den g.K ia H x a ∧ Den g.K ia H y b ∧ oInB a b S = some r ∧ Q (.bl (n r)) H
def vOf : Value → V
  | .bool b => .bl b
  | .int i _ => .int i
  | .str x _ => .str x
  | .ref a => .ref a
  | _ => .non
theorem relV_of {K : PySem.W.Frag} {ia : List Addr} {H : Hp} {v : V} {d : D} {u : Value} (r : Den K ia H v d) (h : RelV v u) : v = vOf u := by
  cases r with
  | non => have h : u = .none := h; subst h; rfl
  | bl b => have h : u = .bool b := h; subst h; rfl
  | int i => obtain ⟨t, h⟩ : ∃ t, u = .int i t := h; subst h; rfl
  | str x => obtain ⟨t, h⟩ : ∃ t, u = .str (T x) t := h; subst h; rfl
  | @tup a _ _ _ _ => have h : u = .ref a := h; subst h; rfl
  | @ref a _ _ => have h : u = .ref a := h; subst h; rfl
theorem relV_inj {K : PySem.W.Frag} {ia : List Addr} {H : Hp} {v w : V} {d e : D} {u : Value} (r : Den K ia H v d) (q : Den K ia H w e) (h1 : RelV v u) (h2 : RelV w u) : v = w := (relV_of r h1).trans (relV_of q h2).symm
section
variable {g : G} {lv : Nat} {X : Cx} {W : WX} {pos : Pos} {a b e : Expr} {f k : EF} {u : AF} {es : List Expr}
open Classical in
/-- what x is asked for among items -/
theorem items_in {pins : List (Addr × Obj)} {σ : L2.St} {H : Hp} {s : Shared} {ia : List Addr} {S : Sto} (hK : X.K = g.K) (I : Inv X pins σ H s) (A : Abs g ia H S) (A0 : Around) (hu : A0.units + EQK < cLine) {ds : List D} {vs : List V} {its : List Value} {d : D} {v : V} {uu : Value} {r : Bool}
    (hd : Dens g.K ia H vs ds) (hv : Vals vs its) (rd : Den g.K ia H v d) (ru : RelV v uu) (h : anyEq (fun y => deq S EQK y d) ds = some r) :
    ∃ e : Value → Bool, (∀ y, y ∈ its.toArray → EqAt A0 s y uu (e y)) ∧ its.toArray.any e = r := by
  have hl : ds.length = its.length := by rw [← hv.length, hd.length]
  let e : Value → Bool := fun y => decide (∃ (j : Nat) (x : D), ds[j]? = some x ∧ its[j]? = some y ∧ deq S EQK x d = some true)
  have he : ∀ (j : Nat) (x : D) (y : Value), ds[j]? = some x → its[j]? = some y → ∀ q, deq S EQK x d = some q → e y = q := fun j x y hx hy q hq => by
    cases q with
    | true => exact decide_eq_true ⟨j, x, hx, hy, hq⟩
    | false =>
      refine decide_eq_false ?_
      rintro ⟨i, z, hz, hy2, hq2⟩
      obtain ⟨v1, e1, r1⟩ := hd.get hx
      obtain ⟨v2, e2, r2⟩ := hd.get hz
      obtain ⟨u1, f1, q1⟩ := hv.get e1
      obtain ⟨u2, f2, q2⟩ := hv.get e2
      rw [hy] at f1
      rw [hy2] at f2
      cases f1
      cases f2
      have ev := relV_inj r1 r2 q1 q2
      subst ev
      have ed := Den.uniq hK I A r1 r2
      subst ed
      rw [hq] at hq2
      cases hq2
  refine ⟨e, fun y hy => ?_, ?_⟩
  · obtain ⟨j, hj, rfl⟩ := List.getElem_of_mem (List.mem_toArray.mp hy)
    have hjd : j < ds.length := by omega
    obtain ⟨q, hq⟩ := anyEq_all h j ds[j] (by simp [hjd])
    rw [he j ds[j] its[j] (by simp [hjd]) (by simp [hj]) q hq]
    obtain ⟨v1, e1, r1⟩ := hd.get (i := j) (d := ds[j]) (by simp [hjd])
    obtain ⟨u1, f1, q1⟩ := hv.get e1
    have : its[j]? = some its[j] := by simp [hj]
    rw [this] at f1
    cases f1
    exact eq_at hK I A EQK A0 hu _ _ _ _ _ _ _ hq r1 rd q1 ru
  · rw [List.any_toArray]
    exact any_of ds its r hl he h
theorem sub_found (x y : List Nat) : (!(Builtin.Str.occurrences (T y) (T x) 0 (T y).length 1).isEmpty) = substr x y := by
  have h := PySem.StrLaws.found_iff (T y) (T x)
  have e1 : (T y).length = y.length := T_len y
  have e2 : (T x).length = x.length := T_len x
  rw [Bool.eq_iff_iff, h]
  unfold substr
  rw [List.any_eq_true]
  constructor
  · rintro ⟨i, h1, h2⟩
    rw [PySem.StrLaws.subAt_eq] at h2
    exact ⟨i, List.mem_range.mpr (by omega), by simpa [T, Str.length] using h2⟩
  · rintro ⟨i, h1, h2⟩
    have h3 : ((y.drop i).take x.length).length = x.length := by rw [eq_of_beq h2]
    have h4 := List.mem_range.mp h1
    rw [List.length_take, List.length_drop] at h3
    refine ⟨i, by omega, ?_⟩
    rw [PySem.StrLaws.subAt_eq]
    simpa [T, Str.length] using h2
theorem in_all {pins : List (Addr × Obj)} {σ : L2.St} {H : Hp} {s : Shared} {Q : VK} {x y : V} {v u : Value} (c : Ctx g lv X W) (I : Inv X pins σ H s) (rx : RelV x v) (ry : RelV y u) (n : Bool → Bool) (h : rInX g n x y H Q)
    (seqL : ∀ {l : Addr} {items : Array Value} {x : Value} {Q : Value → Shared → Prop} (e : Value → Bool), s.heap.IsList l items → (∀ y, y ∈ items → EqAt X.A.in1 s y x (e y)) → Q (.bool (n (items.any e))) s → wpAny (model X.prog X.w) X.A (compareOp (if n true = true then .In else .NotIn) x (.ref l)) Q X.xe s)
    (seqT : ∀ {l : Addr} {items : Array Value} {x : Value} {Q : Value → Shared → Prop} (e : Value → Bool), s.heap.IsTuple l items → (∀ y, y ∈ items → EqAt X.A.in1 s y x (e y)) → Q (.bool (n (items.any e))) s → wpAny (model X.prog X.w) X.A (compareOp (if n true = true then .In else .NotIn) x (.ref l)) Q X.xe s)
    (dct : ∀ {a : Addr} {y : V} {u : Value} {o : Option V} {Q : Value → Shared → Prop}, DGet H a y o → RelV y u → (∀ s', Inv X pins σ H s' → Q (.bool (n o.isSome)) s') → wpAny (model X.prog X.w) X.A (compareOp (if n true = true then .In else .NotIn) u (.ref a)) Q X.xe s)
    (txt : ∀ {i j : Str} {t t' : Tok} {Q : VK}, Q (.bl (n (!(Builtin.Str.occurrences j i 0 j.length 1).isEmpty))) H → wpAny (model X.prog X.w) X.A (compareOp (if n true = true then .In else .NotIn) (.str i t) (.str j t')) (EP X pins σ Q) X.xe s) :
    wpAny (model X.prog X.w) X.A (compareOp (if n true = true then .In else .NotIn) v u) (EP X pins σ Q) X.xe s := by
  obtain ⟨ia, S, a, b, r, A, da, db, h, q⟩ := h
  have hu := c.hu
  have hu2 : X.A.in1.units + EQK < cLine := by show X.A.units + 1 + 60 < cLine; omega
  have hK := c.K
  have dctk : ∀ {aa : Addr} {nn : Nat} {kvs : List (D × D)}, ia[nn]? = some aa → (S[nn]?).bind dicO = some kvs → (keyD a).map (fun _ => (dGet kvs a).isSome) = some r → wpAny (model X.prog X.w) X.A (compareOp (if n true = true then .In else .NotIn) v (.ref aa)) (EP X pins σ Q) X.xe s := fun {aa nn kvs} hn hS hr => by
    cases hk : keyD a with
    | none => rw [hk] at hr; cases hr
    | some kk =>
      rw [hk] at hr
      have hr := Option.some.inj hr
      obtain ⟨vs, h1, h2⟩ := dic_at A hn hS
      refine dct (.inl ⟨vs, kk, h1, keyD_den hk da, rfl⟩) rx fun s' I' => ⟨.bl (n r), H, I', ?_, q⟩
      rcases dGet_ok hk h2 with ⟨e1, e2⟩ | ⟨d, v', e1, e2, _⟩
      · rw [e1] at hr; rw [e2, ← hr]; rfl
      · rw [e1] at hr; rw [e2, ← hr]; rfl
  cases db with
  | @tup aa vs ds ht hs =>
    cases ry
    obtain ⟨its, rv, p⟩ := is_tuple hK I ht
    obtain ⟨e, h1, h2⟩ := items_in hK I A X.A.in1 hu2 hs rv da rx (show anyEq (fun y => deq S EQK y a) ds = some r from h)
    exact seqT e p h1 (by rw [h2]; exact ⟨.bl (n r), H, I, rfl, q⟩)
  | str y =>
    cases da with
    | str x =>
      obtain ⟨t, rfl⟩ := rx
      obtain ⟨t', rfl⟩ := ry
      have h : some (substr x y) = some r := h
      refine txt ?_
      rw [sub_found, Option.some.inj h]
      exact q
    | _ => cases h
  | @ref aa m hm =>
    cases ry
    cases ho : S[m]? with
    | none => simp only [oInB, ho] at h; cases h
    | some o =>
      simp only [oInB, ho] at h
      cases o with
      | lst ds =>
        obtain ⟨vs, its, hs, rv, p⟩ := is_list hK I A hm (show (S[m]?).bind lstO = some ds by rw [ho]; rfl)
        obtain ⟨e, h1, h2⟩ := items_in hK I A X.A.in1 hu2 hs rv da rx h
        exact seqL e p h1 (by rw [h2]; exact ⟨.bl (n r), H, I, rfl, q⟩)
      | frz ds =>
        obtain ⟨vs, its, hs, rv, p⟩ := is_list hK I A hm (show (S[m]?).bind lstO = some ds by rw [ho]; rfl)
        obtain ⟨e, h1, h2⟩ := items_in hK I A X.A.in1 hu2 hs rv da rx h
        exact seqL e p h1 (by rw [h2]; exact ⟨.bl (n r), H, I, rfl, q⟩)
      | dic kvs => exact dctk hm (by rw [ho]; rfl) h
      | lck kvs => exact dctk hm (by rw [ho]; rfl) h
      | _ => cases h
  | _ => cases h
theorem op_inX (c : Ctx g lv X W) : OpR X (compareOp .In) (rInX g id) := by
  intro pins s σ H x y v u Q I rx ry h
  have hu := c.hu
  exact in_all c I rx ry id h (fun e p h1 q => in_listAt e p h1 q) (fun e p h1 q => in_tupleAt e p h1 q) (fun gg r q => d_in (by omega) I gg r q) (fun q => op_in_str pins s σ H (.str _) (.str _) _ _ _ I ⟨_, rfl⟩ ⟨_, rfl⟩ ⟨_, _, rfl, rfl, q⟩)
theorem op_notInX (c : Ctx g lv X W) : OpR X (compareOp .NotIn) (rInX g not) := by
  intro pins s σ H x y v u Q I rx ry h
  have hu := c.hu
  exact in_all c I rx ry not h (fun e p h1 q => notIn_listAt e p h1 q) (fun e p h1 q => notIn_tupleAt e p h1 q) (fun gg r q => d_notIn (by omega) I gg r q) (fun q => op_notIn_str pins s σ H (.str _) (.str _) _ _ _ I ⟨_, rfl⟩ ⟨_, rfl⟩ ⟨_, _, rfl, rfl, q⟩)
theorem o2_in : Op2 g (rInX g id) oIn := by
  intro ia H S x y a b Q W A rx ry p
  unfold oIn at p
  cases h : oInB a b S with
  | none => rw [h] at p; exact p.elim
  | some r => rw [h] at p; exact ⟨ia, S, a, b, r, A, rx, ry, h, p ia H _ .refl A (.bl _)⟩
theorem o2_notIn : Op2 g (rInX g not) oNotIn := by
  intro ia H S x y a b Q W A rx ry p
  unfold oNotIn at p
  cases h : oInB a b S with
  | none => rw [h] at p; exact p.elim
  | some r => rw [h] at p; exact ⟨ia, S, a, b, r, A, rx, ry, h, p ia H _ .refl A (.bl _)⟩
theorem de_in (ha : DE g lv X W a f) (hb : DE g lv X W b k) (hm : behindInMarks .In b = false := by first | exact nomark _ | rfl) : DE g lv X W (.Compare a [.In] [b] pos) (e2 oIn f k) := de_cmp op_inX o2_in ha hb hm
theorem de_notIn (ha : DE g lv X W a f) (hb : DE g lv X W b k) (hm : behindInMarks .NotIn b = false := by first | exact nomark _ | rfl) : DE g lv X W (.Compare a [.NotIn] [b] pos) (e2 oNotIn f k) := de_cmp op_notInX o2_notIn ha hb hm
theorem dt_in (ha : DE g lv X W a f) (hb : DE g lv X W b k) (hm : behindInMarks .In b = false := by first | exact nomark _ | rfl) : DT g lv X W (.Compare a [.In] [b] pos) (tOfE (e2 oIn f k)) := dt_cmp op_inX o2_in ha hb hm
theorem dt_notIn (ha : DE g lv X W a f) (hb : DE g lv X W b k) (hm : behindInMarks .NotIn b = false := by first | exact nomark _ | rfl) : DT g lv X W (.Compare a [.NotIn] [b] pos) (tOfE (e2 oNotIn f k)) := dt_cmp op_notInX o2_notIn ha hb hm
end
end DL
end OfDL6

section OfDL7
set_option Elab.async false
set_option linter.all false
set_option maxRecDepth 100000
/-! DL7: subscripts, slices, built-in functions, methods of lists and dicts, stores, truth, f-strings -/
namespace DL
open PySem PySem.Spec PyProof.Rows L2
open PySem.SeqAt

section
variable {g : G} {lv : Nat} {X : Cx} {W : WX} {pos ppos apos cpos p2 tpos : Pos} {a b e o i : Expr} {f k : EF} {u : AF} {es : List Expr}
/-! ### a[b] -/
def oIx (a b : D) (S : Sto) : R D := match a with
  | .tup ds => match b with
    | .int i => match atI ds i with
      | some d => .ok d S
      | none => .bad
    | _ => .bad
  | .str x => match b with
    | .int i => if x.length ≤ LINE then match atI x i with
      | some c => .ok (.str [c]) S
      | none => .bad
      else .bad
    | _ => .bad
  | .ref n => match S[n]? with
    | some (.lst ds) => match b with
      | .int i => match atI ds i with
        | some d => .ok d S
        | none => .bad
      | _ => .bad
    | some (.frz ds) => match b with
      | .int i => match atI ds i with
        | some d => .ok d S
        | none => .bad
      | _ => .bad
    | some (.dic kvs) => match keyD b with
      | some _ => match dGet kvs b with
        | some d => .ok d S
        | none => .bad
      | none => .bad
    | some (.lck kvs) => match keyD b with
      | some _ => match dGet kvs b with
        | some d => .ok d S
        | none => .bad
      | none => .bad
    | _ => .bad
  | _ => .bad
theorem atI_den {K : PySem.W.Frag} {ia : List Addr} {H : Hp} {vs : List V} {ds : List D} {i : Int} {d : D} (r : Dens K ia H vs ds) (h : atI ds i = some d) : ∃ v, atI vs i = some v ∧ Den K ia H v d := by
  unfold atI at h ⊢
  rw [r.length]
  cases e : ixN ds.length i with
  | none => rw [e] at h; cases h
  | some j =>
    rw [e] at h
    exact r.get h
/-- a dict's item as a subscript -/
def rIxDk (K : PySem.W.Frag) : R2 := fun x y H Q => ∃ a v, x = .ref a ∧ DGet H a y (some v) ∧ Q v H
theorem ix_dic (hu : X.A.units + 100 < cLine) : IxR X (rIxDk X.K) := by
  intro value slice pins s σ H x y v u Q I rx ry h hs
  obtain ⟨a, w, rfl, gg, q⟩ := h
  cases rx
  exact tail_any (dict_typeIs I gg) PySem.F.slot_dict_getitem.lookup (d_getItem (by omega) I gg ry fun w' s' I' rw' => ⟨w, H, I', rw', q⟩) hs
def rIxA (K : PySem.W.Frag) : R2 := fun x y H Q => rIx K x y H Q ∨ rIxDk K x y H Q
theorem ix_A (c : Ctx g lv X W) : IxR X (rIxA g.K) := by
  have h := ix_seq (X := X)
  have h2 := ix_dic (X := X) c.hu
  rw [c.K] at h h2
  exact h.or h2
theorem dGet_at {ia : List Addr} {H : Hp} {S : Sto} (A : Abs g ia H S) {n : Nat} {aa : Addr} {kvs : List (D × D)} (hn : ia[n]? = some aa) (h : (S[n]?).bind dicO = some kvs) {b d : D} {y : V} {kk : Key} (hk : keyD b = some kk) (hd : dGet kvs b = some d) (ry : Den g.K ia H y b) :
    ∃ v, DGet H aa y (some v) ∧ Den g.K ia H v d := by
  obtain ⟨vs, h1, h2⟩ := dic_at A hn h
  rcases dGet_ok hk h2 with ⟨e1, e2⟩ | ⟨d', v', e1, e2, r⟩
  · rw [e1] at hd; cases hd
  · rw [e1] at hd
    cases hd
    exact ⟨v', .inl ⟨vs, kk, h1, keyD_den hk ry, e2.symm⟩, r⟩
theorem o2_ix : Op2 g (rIxA g.K) oIx := by
  intro ia H S x y a b Q W A rx ry p
  cases rx with
  | @tup aa vs ds ht hs =>
    cases ry with
    | int i =>
      simp only [oIx] at p
      cases h : atI ds i with
      | none => rw [h] at p; exact p.elim
      | some d =>
        rw [h] at p
        obtain ⟨v, hv, rv⟩ := atI_den hs h
        exact .inl (.inr (.inl ⟨aa, vs, i, v, rfl, rfl, ht, hv, p ia H v .refl A rv⟩))
    | _ => exact p.elim
  | str z =>
    cases ry with
    | int i =>
      simp only [oIx] at p
      by_cases hl : z.length ≤ LINE
      · rw [if_pos hl] at p
        cases h : atI z i with
        | none => rw [h] at p; exact p.elim
        | some d =>
          rw [h] at p
          exact .inl (.inr (.inr ⟨T z, i, d, rfl, rfl, by rw [T_len]; exact LINE_le hl, by simpa [T] using h, p ia H _ .refl A (.str [d])⟩))
      · rw [if_neg hl] at p; exact p.elim
    | _ => exact p.elim
  | @ref aa n hn =>
    simp only [oIx] at p
    cases ho : S[n]? with
    | none => rw [ho] at p; exact p.elim
    | some ob =>
      rw [ho] at p
      cases ob with
      | lst ds =>
        cases ry with
        | int i =>
          simp only at p
          cases h : atI ds i with
          | none => rw [h] at p; exact p.elim
          | some d =>
            rw [h] at p
            obtain ⟨vs, h1, h2⟩ := SqL_of rfl (A.obj' hn ho) (.inl rfl)
            obtain ⟨v, hv, rv⟩ := atI_den h2 h
            exact .inl (.inl ⟨aa, vs, i, v, rfl, rfl, h1, hv, p ia H v .refl A rv⟩)
        | _ => exact p.elim
      | frz ds =>
        cases ry with
        | int i =>
          simp only at p
          cases h : atI ds i with
          | none => rw [h] at p; exact p.elim
          | some d =>
            rw [h] at p
            obtain ⟨vs, h1, h2⟩ := SqL_of rfl (A.obj' hn ho) (.inr rfl)
            obtain ⟨v, hv, rv⟩ := atI_den h2 h
            exact .inl (.inl ⟨aa, vs, i, v, rfl, rfl, h1, hv, p ia H v .refl A rv⟩)
        | _ => exact p.elim
      | dic kvs =>
        simp only at p
        cases hk : keyD b with
        | none => rw [hk] at p; exact p.elim
        | some kk =>
          rw [hk] at p
          simp only at p
          cases hd : dGet kvs b with
          | none => rw [hd] at p; exact p.elim
          | some d =>
            rw [hd] at p
            obtain ⟨v, g1, rv⟩ := dGet_at A hn (by rw [ho]; rfl) hk hd ry
            exact .inr ⟨aa, v, rfl, g1, p ia H v .refl A rv⟩
      | lck kvs =>
        simp only at p
        cases hk : keyD b with
        | none => rw [hk] at p; exact p.elim
        | some kk =>
          rw [hk] at p
          simp only at p
          cases hd : dGet kvs b with
          | none => rw [hd] at p; exact p.elim
          | some d =>
            rw [hd] at p
            obtain ⟨v, g1, rv⟩ := dGet_at A hn (by rw [ho]; rfl) hk hd ry
            exact .inr ⟨aa, v, rfl, g1, p ia H v .refl A rv⟩
      | _ => exact p.elim
  | _ => exact p.elim
theorem de_ix (ha : DE g lv X W a f) (hb : DE g lv X W b k) (hs : PlainIx b := by intro _ _; rfl) : DE g lv X W (.Subscript a b pos) (e2 oIx f k) :=
  ⟨fun c => (pe_ix (ix_A c) (ha.run c) (hb.run c) hs).wk fun _ _ _ q => two o2_ix q⟩

/-! ### a[lo:hi] -/
abbrev OF := Env → Sto → R (Option Int)
def tOp' (g : G) (W : WX) (f : OF) : TO := fun σ H Q => ∃ ia E S, Abs g ia H S ∧ EDen g.K ia H σ E ∧ Post g ia H (fun c d H' => W c d σ H') (fun _ _ v d => v = d) (f E S) Q
structure DO (g : G) (lv : Nat) (X : Cx) (W : WX) (e : Option Expr) (f : OF) : Prop where run : Ctx g lv X W → PO X e (tOp' g W f)
theorem _root_.L2.PO.wk {X : Cx} {e : Option Expr} {t t' : TO} (h : PO X e t) (i : ∀ σ H Q, t' σ H Q → t σ H Q) : PO X e t' := ⟨fun pins s σ H Q I q => h.run pins s σ H Q I (i σ H Q q)⟩
def oNoP : OF := fun _ S => .ok none S
def oPart (f : EF) : OF := fun E S => (f E S).bind fun d S1 => match d with
  | .int i => .ok (some i) S1
  | _ => .bad
theorem do_none : DO g lv X W none oNoP := ⟨fun c => po_none.wk fun σ H Q h => by
  obtain ⟨ia, E, S, A, e0, p⟩ := h
  exact p ia H none .refl A rfl⟩
theorem do_some (h : DE g lv X W e f) : DO g lv X W (some e) (oPart f) := ⟨fun c => (po_some (h.run c)).wk fun σ H Q h => by
  obtain ⟨ia, E, S, A, e0, p⟩ := h
  refine ⟨ia, E, S, A, e0, (Post.bind (rel := relD g) p).mono (fun v H1 h1 => ?_) fun _ _ _ h => h⟩
  obtain ⟨ia1, d, S1, x1, A1, ra, p1⟩ := h1
  cases ra with
  | int j => exact ⟨j, rfl, p1 ia1 H1 _ .refl A1 rfl⟩
  | _ => exact p1.elim⟩
def cutL {α : Type} (xs : List α) (lo hi : Option Int) : List α := (xs.drop (HT.sIx xs.length 0 lo)).take (HT.sIx xs.length xs.length hi - HT.sIx xs.length 0 lo)
theorem Dens.cut {K : PySem.W.Frag} {ia : List Addr} {H : Hp} {vs : List V} {ds : List D} (r : Dens K ia H vs ds) (lo hi : Option Int) : Dens K ia H (cutV vs lo hi) (cutL ds lo hi) := by
  unfold cutV cutL
  rw [r.length]
  exact (r.drop _).take _
def oSl (a : D) (lo hi : Option Int) (S : Sto) : R D := match a with
  | .tup ds => .ok (.tup (cutL ds lo hi)) S
  | .str x => if x.length ≤ LINE then .ok (.str (cutL x lo hi)) S else .bad
  | .ref n => match S[n]? with
    | some (.lst ds) => .ok (.ref S.length) (S ++ [.lst (cutL ds lo hi)])
    | some (.frz ds) => .ok (.ref S.length) (S ++ [.lst (cutL ds lo hi)])
    | _ => .bad
  | _ => .bad
def eSl (f : EF) (lo hi : OF) : EF := fun E S => (f E S).bind fun a S1 => (lo E S1).bind fun l S2 => (hi E S2).bind fun h S3 => oSl a l h S3
def rSlD (K : PySem.W.Frag) : V → Option Int → Option Int → Hp → VK → Prop := fun x lo hi H Q => rSlL K x lo hi H Q ∨ (rSlA K x lo hi H Q ∨ rSlS x lo hi H Q)
theorem sl_D (c : Ctx g lv X W) : SlR X (rSlD g.K) := by
  have h1 := sl_list (X := X)
  have h2 := sl_tupA (X := X)
  rw [c.K] at h1 h2
  exact h1.or (h2.or sl_str)
theorem o_sl {ia : List Addr} {H : Hp} {S : Sto} {x : V} {a : D} {lo hi : Option Int} {Q : VK} {W : XK} (A : Abs g ia H S) (rx : Den g.K ia H x a) (p : Post g ia H W (relD g) (oSl a lo hi S) Q) : rSlD g.K x lo hi H Q := by
  cases rx with
  | @tup aa vs ds ht hs =>
    refine .inr (.inl ⟨aa, vs, rfl, ht, fun hw => ?_, fun _ => Post.tup A (hs.cut lo hi) p⟩)
    have e : cutL ds lo hi = ds := by
      unfold cutL
      rw [← hs.length, hw.1, hw.2, List.drop_zero, Nat.sub_zero, List.take_of_length_le (by rw [hs.length]; exact Nat.le_refl _)]
    simp only [oSl] at p
    rw [e] at p
    exact p ia H _ .refl A (.tup ht hs)
  | str z =>
    simp only [oSl] at p
    by_cases hl : z.length ≤ LINE
    · rw [if_pos hl] at p
      refine .inr (.inr ⟨T z, rfl, by rw [T_len]; exact LINE_le hl, ?_⟩)
      have e : cutS (T z) lo hi = T (cutL z lo hi) := by simp [cutS, cutL, T, Str.length]
      rw [e]
      exact p ia H _ .refl A (.str _)
    · rw [if_neg hl] at p; exact p.elim
  | @ref aa n hn =>
    simp only [oSl] at p
    cases ho : S[n]? with
    | none => rw [ho] at p; exact p.elim
    | some ob =>
      rw [ho] at p
      cases ob with
      | lst ds =>
        obtain ⟨vs, h1, h2⟩ := SqL_of rfl (A.obj' hn ho) (.inl rfl)
        exact .inl ⟨aa, vs, rfl, h1, Post.new A (ORel.lst (h2.cut lo hi)) p⟩
      | frz ds =>
        obtain ⟨vs, h1, h2⟩ := SqL_of rfl (A.obj' hn ho) (.inr rfl)
        exact .inl ⟨aa, vs, rfl, h1, Post.new A (ORel.lst (h2.cut lo hi)) p⟩
      | _ => exact p.elim
  | _ => exact p.elim
theorem de_sl {lo hi : Option Expr} {l h : OF} (ha : DE g lv X W a f) (hl : DO g lv X W lo l) (hh : DO g lv X W hi h) : DE g lv X W (.Subscript a (.Slice lo hi none p2) pos) (eSl f l h) :=
  ⟨fun c => (pe_slice (sl_D c) (ha.run c) (hl.run c) (hh.run c)).wk fun σ H Q q => by
    obtain ⟨ia, E, S, A, e0, p⟩ := q
    refine ⟨ia, E, S, A, e0, (Post.bind (rel := relD g) p).mono (fun v H1 h1 => ?_) fun _ _ _ h => h⟩
    obtain ⟨ia1, d, S1, x1, A1, ra, p1⟩ := h1
    refine ⟨ia1, E, S1, A1, e0.ext x1, (Post.bind (rel := fun _ _ v d => v = d) p1).mono (fun v2 H2 h2 => ?_) fun _ _ _ h => h⟩
    obtain ⟨ia2, d2, S2, x2, A2, rfl, p2⟩ := h2
    refine ⟨ia2, E, S2, A2, (e0.ext x1).ext x2, (Post.bind (rel := fun _ _ v d => v = d) p2).mono (fun v3 H3 h3 => ?_) fun _ _ _ h => h⟩
    obtain ⟨ia3, d3, S3, x3, A3, rfl, p3⟩ := h3
    exact o_sl A3 ((ra.ext x2).ext x3) p3⟩

/-! ### built-in functions -/
def oLen (ds : List D) (S : Sto) : R D := match ds with
  | [.str x] => if x.length ≤ LINE then .ok (.int x.length) S else .bad
  | [.tup l] => .ok (.int l.length) S
  | [.ref n] => match S[n]? with
    | some (.lst l) => .ok (.int l.length) S
    | some (.frz l) => .ok (.int l.length) S
    | some (.dic l) => .ok (.int l.length) S
    | _ => .bad
  | _ => .bad
def rLenD (K : PySem.W.Frag) : List V → Hp → VK → Prop := fun xs H Q => (∃ x n, xs = [x] ∧ LenV K x H n ∧ Q (.int n) H) ∨ (∃ a kvs, xs = [V.ref a] ∧ H a = some (.dK kvs) ∧ Q (.int kvs.length) H)
theorem call_lenA (c : Ctx g lv X W) : CallR X (.builtin "len") (rLenD g.K) := by
  have h := call_len (X := X)
  rw [c.K] at h
  exact h.or call_lenD
theorem oa_len : OpA g (rLenD g.K) oLen := by
  intro ia H S vs ds Q W A r p
  cases r with
  | nil => exact p.elim
  | cons r t =>
    cases t with
    | cons _ _ => cases r <;> exact p.elim
    | nil =>
      cases r with
      | str z =>
        simp only [oLen] at p
        by_cases hl : z.length ≤ LINE
        · rw [if_pos hl] at p
          exact .inl ⟨_, z.length, rfl, ⟨by rw [T_len]; exact LINE_le hl, (T_len z).symm⟩, p ia H _ .refl A (.int _)⟩
        · rw [if_neg hl] at p; exact p.elim
      | @tup aa vs ds ht hs => exact .inl ⟨_, ds.length, rfl, .inr ⟨vs, ht, hs.length.symm⟩, p ia H _ .refl A (.int _)⟩
      | @ref aa n hn =>
        simp only [oLen] at p
        cases ho : S[n]? with
        | none => rw [ho] at p; exact p.elim
        | some ob =>
          rw [ho] at p
          cases ob with
          | lst ds =>
            obtain ⟨vs, h1, h2⟩ := SqL_of rfl (A.obj' hn ho) (.inl rfl)
            exact .inl ⟨_, ds.length, rfl, .inl ⟨vs, h1, h2.length.symm⟩, p ia H _ .refl A (.int _)⟩
          | frz ds =>
            obtain ⟨vs, h1, h2⟩ := SqL_of rfl (A.obj' hn ho) (.inr rfl)
            exact .inl ⟨_, ds.length, rfl, .inl ⟨vs, h1, h2.length.symm⟩, p ia H _ .refl A (.int _)⟩
          | dic kvs =>
            obtain ⟨vs, h1, h2⟩ := A.obj' hn ho
            have e := Paired.len h2
            exact .inr ⟨_, vs, rfl, h1, by rw [← e]; exact p ia H _ .refl A (.int _)⟩
          | _ => exact p.elim
      | _ => exact p.elim
theorem de_len (hm : X.mg "len" = none) (ha : DA g lv X W [e] u) (hg : Gl X "len" := by rfl) (he : starEach [e] X.env = (false, eval e X.env) :: starEach [] X.env := by rfl) : DE g lv X W (.Call (.Name "len" ppos) [e] [] pos) (eA oLen u) := de_callB (r := rLenD g.K) call_lenA oa_len hm boot_len ha hg (by decide) (by decide) he
def oInt (ds : List D) (S : Sto) : R D := match ds with
  | [.int i] => .ok (.int i) S
  | [.bl b] => .ok (.int (if b then 1 else 0)) S
  | _ => .bad
theorem oa_int : OpA g (fun xs H Q => (∃ i, xs = [.int i] ∧ Q (.int i) H) ∨ ∃ k, xs = [.bl k] ∧ Q (.int (if k then 1 else 0)) H) oInt := by
  intro ia H S vs ds Q W A r p
  cases r with
  | nil => exact p.elim
  | cons r t =>
    cases t with
    | cons _ _ => cases r <;> exact p.elim
    | nil =>
      cases r with
      | int i => exact .inl ⟨i, rfl, p ia H _ .refl A (.int _)⟩
      | bl b => exact .inr ⟨b, rfl, p ia H _ .refl A (.int _)⟩
      | _ => exact p.elim
theorem de_int1 (hm : X.mg "int" = none) (ha : DA g lv X W [e] u) (hg : Gl X "int" := by rfl) (he : starEach [e] X.env = (false, eval e X.env) :: starEach [] X.env := by rfl) : DE g lv X W (.Call (.Name "int" ppos) [e] [] pos) (eA oInt u) := de_callTy (fun _ => call_int1) oa_int hm boot_int ha hg (by decide) (by decide) he
def oAbs (ds : List D) (S : Sto) : R D := match ds with
  | [.int i] => .ok (.int (if i < 0 then -i else i)) S
  | _ => .bad
theorem oa_abs : OpA g (fun xs H Q => ∃ i, xs = [.int i] ∧ Q (.int (if i < 0 then -i else i)) H) oAbs := by
  intro ia H S vs ds Q W A r p
  cases r with
  | nil => exact p.elim
  | cons r t =>
    cases t with
    | cons _ _ => cases r <;> exact p.elim
    | nil =>
      cases r with
      | int i => exact ⟨i, rfl, p ia H _ .refl A (.int _)⟩
      | _ => exact p.elim
theorem de_abs (hm : X.mg "abs" = none) (ha : DA g lv X W [e] u) (hg : Gl X "abs" := by rfl) (he : starEach [e] X.env = (false, eval e X.env) :: starEach [] X.env := by rfl) : DE g lv X W (.Call (.Name "abs" ppos) [e] [] pos) (eA oAbs u) := de_callB (fun _ => call_abs) oa_abs hm boot_abs ha hg (by decide) (by decide) he
def oTwo (h : Int → Int → Int) (ds : List D) (S : Sto) : R D := match ds with
  | [.int i, .int j] => .ok (.int (h i j)) S
  | _ => .bad
theorem oa_two {h : Int → Int → Int} : OpA g (fun xs H Q => ∃ i j, xs = [.int i, .int j] ∧ Q (.int (h i j)) H) (oTwo h) := by
  intro ia H S vs ds Q W A r p
  cases r with
  | nil => exact p.elim
  | cons r t =>
    cases t with
    | nil => cases r <;> exact p.elim
    | cons r2 t2 =>
      cases t2 with
      | cons _ _ => cases r <;> cases r2 <;> exact p.elim
      | nil =>
        cases r with
        | int i =>
          cases r2 with
          | int j => exact ⟨i, j, rfl, p ia H _ .refl A (.int _)⟩
          | _ => exact p.elim
        | _ => cases r2 <;> exact p.elim
def oMax2 : List D → Sto → R D := oTwo fun i j => if j > i then j else i
def oMin2 : List D → Sto → R D := oTwo fun i j => if j < i then j else i
theorem de_max2 (hm : X.mg "max" = none) (ha : DA g lv X W [a, b] u) (hg : Gl X "max" := by rfl) (he : starEach [a, b] X.env = (false, eval a X.env) :: starEach [b] X.env := by rfl) (hpl : (backTo pos (starEach [b] X.env)).any (·.1) = false := by rfl) :
    DE g lv X W (.Call (.Name "max" ppos) [a, b] [] pos) (eA oMax2 u) := de_callB (fun c => call_max2 c.calm) oa_two hm boot_max ha hg (by decide) (by decide) he hpl
theorem de_min2 (hm : X.mg "min" = none) (ha : DA g lv X W [a, b] u) (hg : Gl X "min" := by rfl) (he : starEach [a, b] X.env = (false, eval a X.env) :: starEach [b] X.env := by rfl) (hpl : (backTo pos (starEach [b] X.env)).any (·.1) = false := by rfl) :
    DE g lv X W (.Call (.Name "min" ppos) [a, b] [] pos) (eA oMin2 u) := de_callB (fun c => call_min2 c.calm) oa_two hm boot_min ha hg (by decide) (by decide) he hpl
/-- an int's text -/
def sInt (i : Int) : List Nat := (Str.ofString (toString i)).cps.toList
theorem T_sInt (i : Int) : T (sInt i) = (toString i : String) := by
  show T (Str.ofString (toString i)).cps.toList = Str.ofString (toString i)
  exact (T_of _).symm
def smallI (i : Int) : Bool := decide (i.natAbs.log2 < 1920)
def oStr (ds : List D) (S : Sto) : R D := match ds with
  | [.int i] => if smallI i = true then .ok (.str (sInt i)) S else .bad
  | [.str x] => .ok (.str x) S
  | _ => .bad
theorem oa_str : OpA g (fun xs H Q => (∃ i, xs = [.int i] ∧ i.natAbs.log2 < 1920 ∧ Q (.str (toString i)) H) ∨ ∃ a, xs = [.str a] ∧ Q (.str a) H) oStr := by
  intro ia H S vs ds Q W A r p
  cases r with
  | nil => exact p.elim
  | cons r t =>
    cases t with
    | cons _ _ => cases r <;> exact p.elim
    | nil =>
      cases r with
      | int i =>
        simp only [oStr] at p
        by_cases hl : smallI i = true
        · rw [if_pos hl] at p
          exact .inl ⟨i, rfl, of_decide_eq_true hl, by have := p ia H _ .refl A (.str (sInt i)); rw [T_sInt] at this; exact this⟩
        · rw [if_neg hl] at p; exact p.elim
      | str x => exact .inr ⟨_, rfl, p ia H _ .refl A (.str _)⟩
      | _ => exact p.elim
theorem de_str1 (hm : X.mg "str" = none) (ha : DA g lv X W [e] u) (hg : Gl X "str" := by rfl) (he : starEach [e] X.env = (false, eval e X.env) :: starEach [] X.env := by rfl) : DE g lv X W (.Call (.Name "str" ppos) [e] [] pos) (eA oStr u) := de_callTy (fun _ => call_str_int.or SkE.call_str_str) oa_str hm boot_str ha hg (by decide) (by decide) he
end
end DL
end OfDL7

section OfDL8
set_option Elab.async false
set_option linter.all false
set_option maxRecDepth 100000
/-! DL8: tuple(..), list(..), isinstance, methods, stores into lists and dicts, truth, f-strings, chains -/
namespace DL
open PySem PySem.Spec PyProof.Rows L2
open PySem.SeqAt

/-! ### tuple(d) of a dict -/
section
variable {prog : Program} {w : World} {A : Around} {E : Value → Shared → Prop} {s : Shared} {T : String} {r d : Addr} {n : Nat} {P : Nat → Value → Prop} {OK : Heap → Prop}
open PySem.W PySem.Calls in
theorem collect_kdl {Q : List Value → Shared → Prop} (K : KdlSrc prog w T r d n P OK) (hh : A.handled = none) (hok : OK s.heap) (hn : n ≤ sizeLine)
    (hQ : ∀ (h' : Heap) (tk : Nat) (acc : Array Value), (∀ b o, s.heap.get? b = some o → h'.get? b = some o) → ItemsOf P acc n → Q acc.toList { s with heap := h', toks := tk }) :
    wpAny (model prog w) A (collect (.ref r)) Q E s := by
  unfold collect
  refine wpAny_bind (wpAny_runValue (codeAny_builtin F.entry_proto_collect ?_))
  rw [Around.under_plainId F.plain_proto_collect _]
  show wpAny _ A.in1 (newList [] >>= fun l => again (.builtin "list.__iadd__" ⟨[l, .ref r], []⟩)) _ _ s
  refine wpAny_bind (wpAny_newObj_type ?_)
  refine wpAny_pure ⟨plainId_quiet F.plain_list_iadd _, codeAny_builtin F.entry_list_iadd ?_⟩
  rw [Around.under_plainId F.plain_list_iadd _]
  show wpAny _ A.in1 (Builtin.List.listExtendWith (.ref s.heap.objs.size) (.ref r) (.ref s.heap.objs.size)) _ _ _
  have hS : (s.heap.push { cls := .type "list", data := .seq ([] : List Value).toArray }).get? s.heap.objs.size = some { cls := .type "list", data := .seq #[] 0 } := Heap.get?_push_size _ rfl
  have hlt := K.there _ hok
  refine wpAny_mono (kdl_extend (A := A) (R := fun rr s' => rr = .ok (.ret (.ref s.heap.objs.size)) ∧ ∃ (h' : Heap) (tk : Nat) (acc : Array Value) (c' : Nat), s' = { s with heap := h', toks := tk } ∧
      (∀ b o, s.heap.get? b = some o → h'.get? b = some o) ∧ h'.get? s.heap.objs.size = some { cls := .type "list", dict := none, data := .seq acc c', slots := #[] } ∧ ItemsOf P acc n)
    (s := { s with heap := s.heap.push { cls := .type "list", data := .seq ([] : List Value).toArray } }) K hh (K.keep _ _ hok fun b _ o e => Heap.get?_push_of_some _ e) _ (Nat.ne_of_gt hlt.1) (Nat.ne_of_gt hlt.2) _ 0 hS
    (fun h' tk acc c' hk e hi => ⟨rfl, h', tk, acc, c', rfl, fun b o q => hk b o (Nat.ne_of_lt (Heap.lt_size q)) (Heap.get?_push_of_some _ q), e, hi⟩) hn) (fun fin s' h => ?_) (fun e s' h => ?_)
  · cases fin with
    | done f =>
      obtain ⟨e, h', tk, acc, c', rfl, hk, hS', hi⟩ := h
      cases e
      show wpAny _ A (load s.heap.objs.size >>= _) _ _ _
      exact wpAny_bind (wpAny_load hS' (wpAny_pure (hQ h' tk acc hk hi)))
    | again c' =>
      refine ⟨h.1, codeAny_mono h.2 fun rr s'' hr' => ?_⟩
      obtain ⟨rfl, h', tk, acc, c', rfl, hk, hS', hi⟩ := hr'
      show wpAny _ A (load s.heap.objs.size >>= _) _ _ _
      exact wpAny_bind (wpAny_load hS' (wpAny_pure (hQ h' tk acc hk hi)))
  · exact absurd h.1 (by simp)
open PySem.W PySem.Calls in
theorem code_tuple_new_kdl {Q₁ : Value → Shared → Prop} (K : KdlSrc prog w "dict" d d n P OK) (hh : A.handled = none) (hok : OK s.heap) (hn : n ≤ sizeLine)
    (h : ∀ (h' : Heap) (tk : Nat) (acc : Array Value), (∀ b o, s.heap.get? b = some o → h'.get? b = some o) → ItemsOf P acc n →
      Q₁ (.ref h'.objs.size) { s with heap := h'.push { cls := .type "tuple", data := .seq acc }, toks := tk }) :
    codeAny (model prog w) A (.call (.builtin "tuple.__new__") ⟨[.type "tuple", .ref d], []⟩) (wants Q₁ E) s := by
  refine codeAny_of_tree ?_
  show wpAny _ A.in1 (do checkBuiltinCall "tuple.__new__" ⟨[.type "tuple", .ref d], []⟩; again (.builtin "tuple.__new__" ⟨[.type "tuple", .ref d], []⟩)) _ _ s
  refine wpAny_bind (wpAny_of_eq (F.newCall_tuple_1 _) (wpAny_pure ⟨plainId_quiet F.plain_tuple_new _, codeAny_builtin F.entry_tuple_new ?_⟩))
  rw [Around.under_plainId F.plain_tuple_new _]
  have hsub := sub_tuple_self
  have hinit := init_tuple_lookup
  have hmh := madeHere_tuple
  have hTI : s.TypeIs (.ref d) "dict" := K.type s hok
  have hh1 : A.in1.handled = none := hh
  wp_walk using wpAny_typeOf hTI, collect_kdl (A := A.in1) K hh1 hok hn
  intro h' tk acc hk hacc
  show wpAny _ _ (Builtin.Tuple.tupleExact acc.toList.toArray >>= fun v => ret v) _ _ _
  unfold Builtin.Tuple.tupleExact
  refine wpAny_bind (wpAny_newObj_type ?_ (by show acc.toList.toArray.size ≤ sizeLine; simp only [Array.toArray_toList]; rw [hacc.1]; exact hn))
  refine wpAny_pure ?_
  have e : acc.toList.toArray = acc := by simp
  rw [e]
  exact h h' tk acc hk hacc
open PySem.W PySem.Calls in
theorem call_tuple_kdl {Q : Value → Shared → Prop} (K : KdlSrc prog w "dict" d d n P OK) (hh : A.handled = none) (hok : OK s.heap) (hn : n ≤ sizeLine)
    (hQ : ∀ (h' : Heap) (tk : Nat) (acc : Array Value), (∀ b o, s.heap.get? b = some o → h'.get? b = some o) → ItemsOf P acc n →
      Q (.ref h'.objs.size) { s with heap := h'.push { cls := .type "tuple", data := .seq acc }, toks := tk }) :
    wpAny (model prog w) A (call (.type "tuple") [.ref d]) Q E s := by
  refine callType_codes (Q₁ := fun obj s₁ => s₁.TypeIs obj "tuple" ∧ Q obj s₁) F.called_tuple (F.typeCall_tuple_1 _) F.entry_object_init
    (code_tuple_new_kdl (A := A.in1) K hh hok hn fun h' tk acc hk hacc => ⟨⟨_, Heap.get?_push_size _ rfl, rfl⟩, hQ h' tk acc hk hacc⟩) fun obj s₁ h₁ => ?_
  exact ⟨h₁.1, F.args_object_init_2 obj _, object_init_meets F.called_tuple.init.lookup F.called_tuple.made (by decide) prog w A.in1 _ s₁ ⟨h₁.1, rfl, h₁.2⟩⟩
end
end DL
end OfDL8

section OfDL9
set_option Elab.async false
set_option linter.all false
set_option maxRecDepth 100000
/-! DL9: tuple(..), list(..), isinstance, methods, stores into lists and dicts, truth, f-strings, chains -/
namespace DL
open PySem PySem.Spec PyProof.Rows L2
open PySem.SeqAt

section
variable {g : G} {lv : Nat} {X : Cx} {W : WX} {pos ppos apos cpos p2 tpos : Pos} {a b c e o i : Expr} {f k h : EF} {u : AF} {es : List Expr}
/-! ### tuple(x), list(x) -/
def rTupDk : List V → Hp → VK → Prop := fun xs H Q => ∃ p kvs, xs = [V.ref p] ∧ H p = some (.dK kvs) ∧ ∀ q, H q = none → Q (.ref q) (upd H q (.tup (kvs.map fun kv => kV kv.1)))
theorem call_tuple_dK (hc : X.calm = true) : CallR X (.type "tuple") rTupDk := by
  intro pins s σ H xs us Q I r h
  obtain ⟨p, kvs, e, hk, q⟩ := h
  subst e
  obtain ⟨u, eu, rx⟩ := vals1 r
  subst eu
  obtain rfl : u = Value.ref p := rx
  obtain ⟨z, lo, vs, rk, hd⟩ := (show ObjOk X.prog X.w H s.heap p (.dK kvs) from I.hok p _ hk)
  obtain ⟨ep, hat⟩ := hd.dictAt
  have hl : kvs.length = vs.length := Paired.length rk
  refine call_tuple_kdl (PySem.W.kdl_dict (knd := mixKind X.prog X.w) (kvs := vs) (ep := ep) lo) (I.ok.hd hc) hat (by rw [← hl]; exact z) fun h' tk acc' hkeep hacc => ?_
  have I1 : Inv X pins σ H { s with heap := h', toks := tk } := I.kept hkeep
  have el : acc'.toList.length = acc'.size := by simp
  refine ⟨.ref h'.objs.size, upd H h'.objs.size (.tup (kvs.map fun kv => kV kv.1)), I1.laid (t' := tk) (fun b o e => Heap.get?_push_of_some _ e) (Nat.le_refl _) (show ObjOk X.prog X.w _ _ _ (.tup (kvs.map fun kv => kV kv.1)) from ⟨?_, acc'.toList, ?_, ?_⟩), rfl, q _ (I1.hok.fresh (Nat.le_refl _))⟩
  · rw [List.length_map]; exact z
  · refine vals_of_at (by rw [List.length_map, el, hacc.1, hl]) fun j x w h1 h2 => ?_
    obtain ⟨k, y, hky, hi⟩ := hacc.2 j w (by rw [← Array.getElem?_toList]; exact h2)
    have e1 : (kvs.map (·.1))[j]? = some k := by
      rw [KV.keys rk, List.getElem?_map, hky] <;> rfl
    have e2 : (kvs.map fun kv => kV kv.1)[j]? = some (kV k) := by
      have e3 : (kvs.map fun kv => kV kv.1) = (kvs.map (·.1)).map kV := by rw [List.map_map] <;> rfl
      rw [e3, List.getElem?_map, e1] <;> rfl
    rw [e2] at h1
    cases h1
    exact keyIs_rel hi
  · have e5 : acc'.toList.toArray = acc' := by simp
    rw [e5]
    exact IsTup.new _ _
theorem keys_den {K : PySem.W.Frag} {ia : List Addr} {H : Hp} : ∀ {kvs : List (D × D)} {vs : List (Key × V)}, Paired (KRel K ia H) kvs vs → Dens K ia H (vs.map fun kv => kV kv.1) (kvs.map (·.1))
  | _, _, .nil => .nil
  | p :: _, q :: _, .cons r t => by
    refine .cons ?_ (keys_den t)
    obtain ⟨h1, h2⟩ := r
    obtain ⟨p1, p2⟩ := p
    obtain ⟨q1, q2⟩ := q
    simp only at h1
    cases p1 <;> simp [keyD] at h1 <;> subst h1
    · exact .int _
    · exact .str _
def oTuple (ds : List D) (S : Sto) : R D := match ds with
  | [.tup l] => .ok (.tup l) S
  | [.ref n] => match S[n]? with
    | some (.lst l) => .ok (.tup l) S
    | some (.frz l) => .ok (.tup l) S
    | some (.dic l) => .ok (.tup (l.map (·.1))) S
    | _ => .bad
  | _ => .bad
def rTupleA (K : PySem.W.Frag) : List V → Hp → VK → Prop := fun xs H Q => (∃ p ys, xs = [.ref p] ∧ ((SqL K H p ys ∧ ∀ l, H l = none → Q (.ref l) (upd H l (.tup ys))) ∨ (SqT K H p ys ∧ Q (.ref p) H))) ∨ rTupDk xs H Q
theorem call_tupleA (c : Ctx g lv X W) : CallR X (.type "tuple") (rTupleA g.K) := by
  have h := call_tuple_of (X := X)
  rw [c.K] at h
  exact h.or (call_tuple_dK c.calm)
theorem oa_tuple : OpA g (rTupleA g.K) oTuple := by
  intro ia H S vs ds Q W A r p
  cases r with
  | nil => exact p.elim
  | cons r t =>
    cases t with
    | cons _ _ => cases r <;> exact p.elim
    | nil =>
      cases r with
      | @tup aa vs ds ht hs => exact .inl ⟨aa, vs, rfl, .inr ⟨ht, p ia H _ .refl A (.tup ht hs)⟩⟩
      | @ref aa n hn =>
        simp only [oTuple] at p
        cases ho : S[n]? with
        | none => rw [ho] at p; exact p.elim
        | some ob =>
          rw [ho] at p
          cases ob with
          | lst ds =>
            obtain ⟨vs, h1, h2⟩ := SqL_of rfl (A.obj' hn ho) (.inl rfl)
            exact .inl ⟨aa, vs, rfl, .inl ⟨h1, Post.tup A h2 p⟩⟩
          | frz ds =>
            obtain ⟨vs, h1, h2⟩ := SqL_of rfl (A.obj' hn ho) (.inr rfl)
            exact .inl ⟨aa, vs, rfl, .inl ⟨h1, Post.tup A h2 p⟩⟩
          | dic kvs =>
            obtain ⟨vs, h1, h2⟩ := A.obj' hn ho
            exact .inr ⟨aa, vs, rfl, h1, Post.tup A (keys_den h2) p⟩
          | _ => exact p.elim
      | _ => exact p.elim
theorem de_tuple (hm : X.mg "tuple" = none) (ha : DA g lv X W [e] u) (hg : Gl X "tuple" := by rfl) (he : starEach [e] X.env = (false, eval e X.env) :: starEach [] X.env := by rfl) : DE g lv X W (.Call (.Name "tuple" ppos) [e] [] pos) (eA oTuple u) :=
  de_callTy (r := rTupleA g.K) call_tupleA oa_tuple hm boot_tuple ha hg (by decide) (by decide) he
def oList (ds : List D) (S : Sto) : R D := match ds with
  | [.tup l] => .ok (.ref S.length) (S ++ [.lst l])
  | [.ref n] => match S[n]? with
    | some (.lst l) => .ok (.ref S.length) (S ++ [.lst l])
    | some (.frz l) => .ok (.ref S.length) (S ++ [.lst l])
    | some (.dic l) => .ok (.ref S.length) (S ++ [.lst (l.map (·.1))])
    | _ => .bad
  | _ => .bad
def rListA (K : PySem.W.Frag) : List V → Hp → VK → Prop := fun xs H Q => (∃ p ys, xs = [.ref p] ∧ (SqL K H p ys ∨ SqT K H p ys) ∧ ∀ l, H l = none → Q (.ref l) (upd H l (.lst ys))) ∨ rListD xs H Q
theorem call_listA (c : Ctx g lv X W) : CallR X (.type "list") (rListA g.K) := by
  have h := call_list_of (X := X)
  rw [c.K] at h
  exact h.or (call_list_dK c.calm)
theorem oa_list : OpA g (rListA g.K) oList := by
  intro ia H S vs ds Q W A r p
  cases r with
  | nil => exact p.elim
  | cons r t =>
    cases t with
    | cons _ _ => cases r <;> exact p.elim
    | nil =>
      cases r with
      | @tup aa vs ds ht hs => exact .inl ⟨aa, vs, rfl, .inr ht, Post.new A (ORel.lst hs) p⟩
      | @ref aa n hn =>
        simp only [oList] at p
        cases ho : S[n]? with
        | none => rw [ho] at p; exact p.elim
        | some ob =>
          rw [ho] at p
          cases ob with
          | lst ds =>
            obtain ⟨vs, h1, h2⟩ := SqL_of rfl (A.obj' hn ho) (.inl rfl)
            exact .inl ⟨aa, vs, rfl, .inl h1, Post.new A (ORel.lst h2) p⟩
          | frz ds =>
            obtain ⟨vs, h1, h2⟩ := SqL_of rfl (A.obj' hn ho) (.inr rfl)
            exact .inl ⟨aa, vs, rfl, .inl h1, Post.new A (ORel.lst h2) p⟩
          | dic kvs =>
            obtain ⟨vs, h1, h2⟩ := A.obj' hn ho
            exact .inr ⟨aa, vs, rfl, h1, Post.new A (ORel.lst (keys_den h2)) p⟩
          | _ => exact p.elim
      | _ => exact p.elim
theorem de_list (hm : X.mg "list" = none) (ha : DA g lv X W [e] u) (hg : Gl X "list" := by rfl) (he : starEach [e] X.env = (false, eval e X.env) :: starEach [] X.env := by rfl) : DE g lv X W (.Call (.Name "list" ppos) [e] [] pos) (eA oList u) :=
  de_callTy (r := rListA g.K) call_listA oa_list hm boot_list ha hg (by decide) (by decide) he

/-! ### isinstance(x, T) -/
inductive Ty where
  | non | bl | int | str | tup | lst | dic
  deriving DecidableEq
def kn : Ty → String
  | .non => "NoneType"
  | .bl => "bool"
  | .int => "int"
  | .str => "str"
  | .tup => "tuple"
  | .lst => "list"
  | .dic => "dict"
def tyD (d : D) (S : Sto) : Option Ty := match d with
  | .non => some .non
  | .bl _ => some .bl
  | .int _ => some .int
  | .str _ => some .str
  | .tup _ => some .tup
  | .ref n => match S[n]? with
    | some (.lst _) => some .lst
    | some (.frz _) => some .lst
    | some (.dic _) => some .dic
    | some (.lck _) => some .dic
    | _ => none
def isSub (a b : Ty) : Bool := a = b || (a = .bl && b = .int)
theorem kit_all : ∀ a b : Ty, kitB (kn a) (kn b) = some (isSub a b) := by
  have h : ∀ a ∈ [Ty.non, .bl, .int, .str, .tup, .lst, .dic], ∀ b ∈ [Ty.non, .bl, .int, .str, .tup, .lst, .dic], kitB (kn a) (kn b) = some (isSub a b) := by decide +kernel
  intro a b
  exact h a (by cases a <;> decide) b (by cases b <;> decide)
theorem tyD_ok {ia : List Addr} {H : Hp} {S : Sto} (A : Abs g ia H S) {v : V} {d : D} {t : Ty} (r : Den g.K ia H v d) (h : tyD d S = some t) : TyX g.K H v (.type (kn t)) := by
  cases r with
  | non => cases h; exact .base .non
  | bl b => cases h; exact .base (.bl b)
  | int i => cases h; exact .base (.int i)
  | str x => cases h; exact .base (.str _)
  | tup ht hs =>
    cases h
    rcases ht with (h | ⟨o, h⟩) | ⟨o, its, n, hk, hc, _⟩
    · exact .base (.tup h)
    · exact .fTuple h
    · exact .kTuple hk hc
  | @ref aa n hn =>
    cases ho : S[n]? with
    | none => simp only [tyD, ho] at h; cases h
    | some ob =>
      simp only [tyD, ho] at h
      have r := A.obj' hn ho
      cases ob with
      | lst ds => cases h; obtain ⟨vs, h1, _⟩ := r; exact .base (.lst h1)
      | frz ds => cases h; obtain ⟨vs, o, h1, _⟩ := r; exact .base (.frz h1)
      | dic ds => cases h; obtain ⟨vs, h1, _⟩ := r; exact .base (.dK h1)
      | lck ds => cases h; obtain ⟨o, vs, h1, _⟩ := r; exact .fDict h1
      | _ => cases h
def eIsi (t : Ty) (f : EF) : EF := fun E S => (f E S).bind fun d S1 => match tyD d S1 with
  | some s => .ok (.bl (isSub s t)) S1
  | none => .bad
theorem de_isi {T : Str} (t : Ty) (hm : X.mg "isinstance" = none) (hmT : X.mg T = none) (hv : bootBuiltins T = some (.type (kn t))) (he : DE g lv X W e f) (hg : Gl X "isinstance" := by rfl) (hgT : Gl X T := by rfl) (hn : T ≠ "__name__" := by decide) (hd : (T == ("__debug__" : Str)) = false := by decide)
    (hs1 : starEach [e, .Name T p2] X.env = (false, eval e X.env) :: starEach [.Name T p2] X.env := by rfl) (hs2 : starEach [.Name T p2] X.env = (false, eval (.Name T p2) X.env) :: starEach [] X.env := by rfl) (hpl : (backTo pos (starEach [.Name T p2] X.env)).any (·.1) = false := by rfl) :
    DE g lv X W (.Call (.Name "isinstance" ppos) [e, .Name T p2] [] pos) (eIsi t f) := ⟨fun c => by
  have hc := call_isi (X := X)
  rw [c.K] at hc
  refine (pe_callB hc hg hm boot_isinstance (pa_cons (he.run c) (pa_cons (pe_bltn hgT hmT hv (v := .ty (kn t)) rfl hn hd) pa_nil hs2) hs1) (by decide) (by decide) hs1 hpl).wk fun σ H Q q => ?_
  obtain ⟨ia, E, S, A, e0, p⟩ := q
  refine ⟨ia, E, S, A, e0, (Post.bind (rel := relD g) p).mono (fun v H1 h1 => ?_) fun _ _ _ h => h⟩
  obtain ⟨ia1, d, S1, x1, A1, ra, p1⟩ := h1
  try simp only at p1
  cases ht : tyD d S1 with
  | none => rw [ht] at p1; exact p1.elim
  | some s =>
    rw [ht] at p1
    exact ⟨v, .ty (kn t), .type (kn s), .type (kn t), isSub s t, rfl, .ty _, tyD_ok A1 ra ht, kit_ty (kit_all s t), p1 ia1 H1 _ .refl A1 (.bl _)⟩⟩

/-! ### methods of built-in types -/
def hasTy (t : Ty) (d : D) (S : Sto) : Bool := match d with
  | .str _ => t = .str
  | .ref n => match S[n]? with
    | some (.lst _) => t = .lst
    | some (.frz _) => t = .lst
    | some (.dic _) => t = .dic
    | _ => false
  | _ => false
theorem hasTy_ok {ia : List Addr} {H : Hp} {S : Sto} (A : Abs g ia H S) {v : V} {d : D} {t : Ty} (r : Den g.K ia H v d) (h : hasTy t d S = true) : tyV g.K (kn t) v H := by
  cases r with
  | str x =>
    have e : t = .str := by simpa [hasTy] using h
    subst e
    rfl
  | @ref aa n hn =>
    cases ho : S[n]? with
    | none => simp only [hasTy, ho] at h; cases h
    | some ob =>
      simp only [hasTy, ho] at h
      have r := A.obj' hn ho
      cases ob with
      | lst ds =>
        have e : t = .lst := by simpa using h
        subst e
        obtain ⟨vs, h1, _⟩ := r
        exact .inl ⟨rfl, vs, .inl (.inl h1)⟩
      | frz ds =>
        have e : t = .lst := by simpa using h
        subst e
        obtain ⟨vs, o, h1, _⟩ := r
        exact .inl ⟨rfl, vs, .inl (.inr ⟨o, h1⟩)⟩
      | dic ds =>
        have e : t = .dic := by simpa using h
        subst e
        obtain ⟨vs, h1, _⟩ := r
        exact .inr (.inr (.inl ⟨rfl, .inl ⟨vs, h1⟩⟩))
      | _ => cases h
  | _ => cases h
def eMt (t : Ty) (m : D → List D → Sto → R D) (f : EF) (u : AF) : EF := fun E S => (f E S).bind fun d S1 => if hasTy t d S1 = true then (u E S1).bind fun ds S2 => m d ds S2 else .bad
def OpM (g : G) (r : V → List V → Hp → VK → Prop) (m : D → List D → Sto → R D) : Prop := ∀ (ia : List Addr) (H : Hp) (S : Sto) (x : V) (d : D) (vs : List V) (ds : List D) (Q : VK) (W : XK), Abs g ia H S → Den g.K ia H x d → Dens g.K ia H vs ds → Post g ia H W (relD g) (m d ds S) Q → r x vs H Q
theorem bm_post {t : Ty} {r : V → List V → Hp → VK → Prop} {m : D → List D → Sto → R D} (om : OpM g r m) {σ : L2.St} {H : Hp} {Q : VK} (q : tD g W (eMt t m f u) σ H Q) : tD g W f σ H fun x H1 => tyV g.K (kn t) x H1 ∧ tA g W u σ H1 fun xs H2 => r x xs H2 Q := by
  obtain ⟨ia, E, S, A, e0, p⟩ := q
  refine ⟨ia, E, S, A, e0, (Post.bind (rel := relD g) p).mono (fun v H1 h1 => ?_) fun _ _ _ h => h⟩
  obtain ⟨ia1, d, S1, x1, A1, ra, p1⟩ := h1
  by_cases ht : hasTy t d S1 = true
  · rw [if_pos ht] at p1
    refine ⟨hasTy_ok A1 ra ht, ia1, E, S1, A1, e0.ext x1, (Post.bind (rel := relL g) p1).mono (fun vs H2 h2 => ?_) fun _ _ _ h => h⟩
    obtain ⟨ia2, ds, S2, x2, A2, rb, p2⟩ := h2
    exact om ia2 H2 S2 v d vs ds Q _ A2 (ra.ext x2) rb p2
  · rw [if_neg ht] at p1; exact p1.elim
theorem de_bm {name : Str} {id : String} {r : V → List V → Hp → VK → Prop} {m : D → List D → Sto → R D} (t : Ty) (pa : PlainAttrs (kn t)) (slot : Slot (kn t) name id) (hty : typeOf (.builtin id) = pure (.type "method_descriptor")) (hm : Ctx g lv X W → MtR X id r) (om : OpM g r m) (ho : DE g lv X W o f) (ha : DA g lv X W (e :: es) u)
    (hbase : attributeBase o name X.env (eval o X.env) = eval o X.env := by rfl)
    (hfew : ((backTo cpos (starEach (e :: es) X.env)).all (fun x => !x.1) && (backToKw cpos (keywordEach [] X.env)).all (fun x => x.1.isSome)
      && decide ((e :: es).length + ([] : List Keyword).length + (if ([] : List Keyword).isEmpty then 0 else 1) < 30)) = true := by rfl)
    (hline : (apos.endLine == cpos.line) = true := by rfl) (hs : starEach (e :: es) X.env = (false, eval e X.env) :: starEach es X.env := by rfl) (hplain : (backTo cpos (starEach es X.env)).any (·.1) = false := by rfl) :
    DE g lv X W (.Call (.Attribute o name apos) (e :: es) [] cpos) (eMt t m f u) := ⟨fun c => (pe_bm pa slot hty (hm c) (ho.run c) (ha.run c) hbase hfew hline hs hplain).wk fun σ H Q q => by
  have h := bm_post om q
  rw [← c.K] at h
  exact h⟩
theorem de_bm0 {name : Str} {id : String} {r : V → List V → Hp → VK → Prop} {m : D → List D → Sto → R D} (t : Ty) (pa : PlainAttrs (kn t)) (slot : Slot (kn t) name id) (hty : typeOf (.builtin id) = pure (.type "method_descriptor")) (hm : Ctx g lv X W → MtR X id r) (om : OpM g r m) (ho : DE g lv X W o f)
    (hbase : attributeBase o name X.env (eval o X.env) = eval o X.env := by rfl) (hline : (apos.endLine == cpos.line) = true := by rfl) :
    DE g lv X W (.Call (.Attribute o name apos) [] [] cpos) (eMt t m f aNil) := ⟨fun c => (pe_bm0 pa slot hty (hm c) (ho.run c) hbase hline).wk fun σ H Q q => by
  obtain ⟨ia, E, S, A, e0, p⟩ := q
  refine ⟨ia, E, S, A, e0, (Post.bind (rel := relD g) p).mono (fun v H1 h1 => ?_) fun _ _ _ h => h⟩
  obtain ⟨ia1, d, S1, x1, A1, ra, p1⟩ := h1
  by_cases ht : hasTy t d S1 = true
  · rw [if_pos ht] at p1
    exact ⟨by rw [c.K]; exact hasTy_ok A1 ra ht, om ia1 H1 S1 v d [] [] Q _ A1 ra .nil p1⟩
  · rw [if_neg ht] at p1; exact p1.elim⟩
/-- a list of the store is written anew -/
theorem Post.wr {ia : List Addr} {H : Hp} {S : Sto} {n : Nat} {aa : Addr} {vs ws : List V} {es : List D} {v : V} {d : D} {Q : VK} {W : XK} (A : Abs g ia H S) (hn : ia[n]? = some aa) (hH : H aa = some (.lst vs)) (hw : Dens g.K ia H ws es) (rv : Den g.K ia H v d)
    (p : Post g ia H W (relD g) (.ok d (S.set n (.lst es))) Q) : Q v (upd H aa (.lst ws)) := by
  have xx : Ext ia H ia (upd H aa (.lst ws)) := Ext.chg hH (fun _ z => nomatch z) (fun _ _ z => nomatch z)
  exact p ia _ v xx (A.set hn hH (fun _ z => nomatch z) (fun _ _ z => nomatch z) ⟨ws, upd_same, hw.ext xx⟩) (rv.ext xx)
def mAppend (d : D) (ds : List D) (S : Sto) : R D := match d, ds with
  | .ref n, [y] => match S[n]? with
    | some (.lst xs) => if xs.length < LINE then .ok .non (S.set n (.lst (xs ++ [y]))) else .bad
    | _ => .bad
  | _, _ => .bad
theorem om_append : OpM g rAppend mAppend := by
  intro ia H S x d vs ds Q W A rx rs p
  cases rx with
  | @ref aa n hn =>
    cases rs with
    | nil => exact p.elim
    | cons r1 t =>
      cases t with
      | cons _ _ => exact p.elim
      | nil =>
        simp only [mAppend] at p
        cases ho : S[n]? with
        | none => rw [ho] at p; exact p.elim
        | some ob =>
          rw [ho] at p
          cases ob with
          | lst xs =>
            simp only at p
            by_cases hl : xs.length < LINE
            · rw [if_pos hl] at p
              obtain ⟨ws, h1, h2⟩ := A.obj' hn ho
              exact ⟨aa, ws, _, rfl, rfl, h1, by rw [h2.length]; exact LINE_lt hl, Post.wr A hn h1 (h2.append (.cons r1 .nil)) .non p⟩
            · rw [if_neg hl] at p; exact p.elim
          | _ => exact p.elim
  | _ => exact p.elim
theorem de_append (ho : DE g lv X W o f) (ha : DA g lv X W [e] u) (hbase : attributeBase o "append" X.env (eval o X.env) = eval o X.env := by rfl)
    (hfew : ((backTo cpos (starEach [e] X.env)).all (fun x => !x.1) && (backToKw cpos (keywordEach [] X.env)).all (fun x => x.1.isSome)
      && decide ([e].length + ([] : List Keyword).length + (if ([] : List Keyword).isEmpty then 0 else 1) < 30)) = true := by rfl)
    (hline : (apos.endLine == cpos.line) = true := by rfl) (hs : starEach [e] X.env = (false, eval e X.env) :: starEach [] X.env := by rfl) :
    DE g lv X W (.Call (.Attribute o "append" apos) [e] [] cpos) (eMt .lst mAppend f u) := de_bm .lst F.plainAttrs_list PySem.F.slot_list_append PySem.F.type_list_append (fun _ => mt_append) om_append ho ha hbase hfew hline hs
/-- d.get(y), d.get(y, z) -/
def isDic (d : D) (S : Sto) : Bool := match d with
  | .ref n => match (S[n]?).bind dicO with
    | some _ => true
    | none => false
  | _ => false
def dicAt (d : D) (S : Sto) : Option (List (D × D)) := match d with
  | .ref n => (S[n]?).bind dicO
  | _ => none
def eGet (f k h : EF) : EF := fun E S => (f E S).bind fun d S1 => match dicAt d S1 with
  | some _ => (k E S1).bind fun y S2 => (h E S2).bind fun z S3 => match dicAt d S3, keyD y with
    | some kvs, some _ => .ok ((dGet kvs y).getD z) S3
    | _, _ => .bad
  | none => .bad
def eGet1 (f k : EF) : EF := fun E S => (f E S).bind fun d S1 => match dicAt d S1 with
  | some _ => (k E S1).bind fun y S2 => match dicAt d S2, keyD y with
    | some kvs, some _ => .ok ((dGet kvs y).getD .non) S2
    | _, _ => .bad
  | none => .bad
theorem get_at {ia : List Addr} {H : Hp} {S : Sto} (A : Abs g ia H S) {n : Nat} {aa : Addr} {kvs : List (D × D)} (hn : ia[n]? = some aa) (hk : (S[n]?).bind dicO = some kvs) {y z : V} {yd zd : D} {kk : Key} (hy : keyD yd = some kk) (ry : Den g.K ia H y yd) (rz : Den g.K ia H z zd) :
    ∃ o, DGet H aa y o ∧ Den g.K ia H (o.getD z) ((dGet kvs yd).getD zd) := by
  obtain ⟨vs, h1, h2⟩ := dic_at A hn hk
  refine ⟨valV vs kk, .inl ⟨vs, kk, h1, keyD_den hy ry, rfl⟩, ?_⟩
  rcases dGet_ok hy h2 with ⟨e1, e2⟩ | ⟨d', v', e1, e2, r⟩
  · rw [e1, e2]; exact rz
  · rw [e1, e2]; exact r
theorem isD_of {ia : List Addr} {H : Hp} {S : Sto} (A : Abs g ia H S) {n : Nat} {aa : Addr} {kvs : List (D × D)} (hn : ia[n]? = some aa) (hk : (S[n]?).bind dicO = some kvs) : IsD H aa := by
  obtain ⟨vs, h1, _⟩ := dic_at A hn hk
  exact .inl ⟨vs, h1⟩
theorem de_get1 (ho : DE g lv X W o f) (ha : DE g lv X W e k) (m : M1 X o "get" apos e cpos := by exact ⟨rfl, rfl, rfl, rfl⟩) : DE g lv X W (.Call (.Attribute o "get" apos) [e] [] cpos) (eGet1 f k) :=
  ⟨fun c => (pe_dget1 (by have := c.hu; omega) (ho.run c) (ha.run c) m).wk fun σ H Q q => by
    obtain ⟨ia, E, S, A, e0, p⟩ := q
    refine ⟨ia, E, S, A, e0, (Post.bind (rel := relD g) p).mono (fun v H1 h1 => ?_) fun _ _ _ h => h⟩
    obtain ⟨ia1, d, S1, x1, A1, ra, p1⟩ := h1
    cases ra with
    | @ref aa n hn =>
      try simp only at p1
      cases hk : dicAt (.ref n) S1 with
      | none => rw [hk] at p1; exact p1.elim
      | some kvs =>
        rw [hk] at p1
        refine ⟨aa, rfl, isD_of A1 hn hk, ia1, E, S1, A1, e0.ext x1, (Post.bind (rel := relD g) p1).mono (fun y H2 h2 => ?_) fun _ _ _ h => h⟩
        obtain ⟨ia2, yd, S2, x2, A2, ry, p2⟩ := h2
        try simp only at p2
        cases hk2 : dicAt (.ref n) S2 with
        | none => rw [hk2] at p2; exact p2.elim
        | some kvs2 =>
          rw [hk2] at p2
          cases hy : keyD yd with
          | none => rw [hy] at p2; exact p2.elim
          | some kk =>
            rw [hy] at p2
            obtain ⟨o, g1, r1⟩ := get_at A2 (x2.at hn) hk2 hy ry (z := .non) .non
            exact ⟨o, g1, p2 ia2 H2 _ .refl A2 r1⟩
    | _ => exact p1.elim⟩
theorem de_get2 (ho : DE g lv X W o f) (ha : DE g lv X W e k) (hb : DE g lv X W b h) (m : M2 X o "get" apos e b cpos := by exact ⟨rfl, rfl, rfl, rfl⟩) : DE g lv X W (.Call (.Attribute o "get" apos) [e, b] [] cpos) (eGet f k h) :=
  ⟨fun c => (pe_dget2 (by have := c.hu; omega) (ho.run c) (ha.run c) (hb.run c) m).wk fun σ H Q q => by
    obtain ⟨ia, E, S, A, e0, p⟩ := q
    refine ⟨ia, E, S, A, e0, (Post.bind (rel := relD g) p).mono (fun v H1 h1 => ?_) fun _ _ _ h => h⟩
    obtain ⟨ia1, d, S1, x1, A1, ra, p1⟩ := h1
    cases ra with
    | @ref aa n hn =>
      try simp only at p1
      cases hk : dicAt (.ref n) S1 with
      | none => rw [hk] at p1; exact p1.elim
      | some kvs =>
        rw [hk] at p1
        refine ⟨aa, rfl, isD_of A1 hn hk, ia1, E, S1, A1, e0.ext x1, (Post.bind (rel := relD g) p1).mono (fun y H2 h2 => ?_) fun _ _ _ h => h⟩
        obtain ⟨ia2, yd, S2, x2, A2, ry, p2⟩ := h2
        refine ⟨ia2, E, S2, A2, (e0.ext x1).ext x2, (Post.bind (rel := relD g) p2).mono (fun z H3 h3 => ?_) fun _ _ _ h => h⟩
        obtain ⟨ia3, zd, S3, x3, A3, rz, p3⟩ := h3
        try simp only at p3
        cases hk2 : dicAt (.ref n) S3 with
        | none => rw [hk2] at p3; exact p3.elim
        | some kvs2 =>
          rw [hk2] at p3
          cases hy : keyD yd with
          | none => rw [hy] at p3; exact p3.elim
          | some kk =>
            rw [hy] at p3
            obtain ⟨o, g1, r1⟩ := get_at A3 ((x2.trans x3).at hn) hk2 hy (ry.ext x3) rz
            exact ⟨o, g1, p3 ia3 H3 _ .refl A3 r1⟩
    | _ => exact p1.elim⟩

/-! ### {}, o[i] = v, del d[k] -/
def eDict0 : EF := fun _ S => .ok (.ref S.length) (S ++ [.dic []])
theorem de_dict0 : DE g lv X W (.Dict [] [] pos) eDict0 := ⟨fun c => pe_dnewK.wk fun σ H Q q => by
  obtain ⟨ia, E, S, A, e0, p⟩ := q
  exact Post.new (o := .dic []) (ho := .dK []) A (fun _ _ _ _ e => ⟨[], e, .nil⟩) p⟩
def stSub (o i v : D) (S : Sto) : Option Sto := match o with
  | .ref n => match S[n]? with
    | some (.lst xs) => match i with
      | .int j => (ixN xs.length j).map fun m => S.set n (.lst (xs.set m v))
      | _ => none
    | some (.dic kvs) => match keyD i with
      | some _ => if kvs.length < LINE then some (S.set n (.dic (dPut kvs i v))) else none
      | none => none
    | _ => none
  | _ => none
def sSub (f k h : EF) : SF := fun E S => RS.of (h E S) E fun v S1 => RS.of (f E S1) E fun o S2 => RS.of (k E S2) E fun i S3 => match stSub o i v S3 with
  | some S4 => .nx E S4
  | none => .bad
theorem _root_.L2.PSet.orD {t t' : TSet} (h : PSet X t) (h' : PSet X t') : PSet X (fun o i v H Q => t o i v H Q ∨ t' o i v H Q) := by
  intro pins s σ H o i v ov iv u Q I ro ri rv q
  rcases q with q | q
  · exact h pins s σ H o i v ov iv u Q I ro ri rv q
  · exact h' pins s σ H o i v ov iv u Q I ro ri rv q
theorem st_sub {ia : List Addr} {H : Hp} {S S' : Sto} (A : Abs g ia H S) {x y z : V} {o i v : D} (rx : Den g.K ia H x o) (ry : Den g.K ia H y i) (rz : Den g.K ia H z v) (h : stSub o i v S = some S') {Q : Hp → Prop} (q : ∀ H', Ext ia H ia H' → Abs g ia H' S' → Q H') : rSetL x y z H Q ∨ rSetD x y z H Q := by
  cases rx with
  | @ref aa n hn =>
    cases ho : S[n]? with
    | none => simp only [stSub, ho] at h; cases h
    | some ob =>
      simp only [stSub, ho] at h
      cases ob with
      | lst xs =>
        cases ry with
        | int j =>
          simp only at h
          obtain ⟨vs, h1, h2⟩ := A.obj' hn ho
          cases hj : ixN xs.length j with
          | none => rw [hj] at h; cases h
          | some m =>
            rw [hj] at h
            have h := Option.some.inj h
            subst h
            refine .inl ⟨aa, vs, j, m, rfl, rfl, h1, by rw [h2.length]; exact hj, ?_⟩
            have xx : Ext ia H ia (upd H aa (.lst (vs.set m z))) := Ext.chg h1 (fun _ z => nomatch z) (fun _ _ z => nomatch z)
            exact q _ xx (A.set hn h1 (fun _ z => nomatch z) (fun _ _ z => nomatch z) ⟨_, upd_same, (h2.set rz m).ext xx⟩)
        | _ => cases h
      | dic kvs =>
        simp only at h
        cases hy : keyD i with
        | none => rw [hy] at h; cases h
        | some kk =>
          rw [hy] at h
          simp only at h
          by_cases hl : kvs.length < LINE
          · rw [if_pos hl] at h
            have h := Option.some.inj h
            subst h
            obtain ⟨vs, h1, h2⟩ := A.obj' hn ho
            have e := Paired.len h2
            refine .inr ⟨aa, upd H aa (.dK (putK vs kk z)), rfl, ?_, ?_⟩
            · rw [keyD_den hy ry]
              exact DPut.k h1 (by rw [← e]; exact LINE_lt hl)
            · have xx : Ext ia H ia (upd H aa (.dK (putK vs kk z))) := Ext.chg h1 (fun _ z => nomatch z) (fun _ _ z => nomatch z)
              exact q _ xx (A.set hn h1 (fun _ z => nomatch z) (fun _ _ z => nomatch z) ⟨_, upd_same, L2.Paired.mapP (dPut_ok hy rz h2) fun _ _ r => r.ext xx⟩)
          · rw [if_neg hl] at h; cases h
      | _ => cases h
  | _ => cases h
theorem ds_sub {value : Expr} (ho : DE g lv X W o f) (hi : DE g lv X W i k) (hv : DE g lv X W value h) (hs : swapsWithSole [.Subscript o i p2] value pos.line X.env = pure false := by rfl) (hw : swappedStores [.Subscript o i p2] value X.env = pure none := by rfl)
    (h1 : (assignEach [.Subscript o i p2] X.env).map (·.2) = [assign (.Subscript o i p2) X.env] := by rfl)
    (ha : ∀ v, assign (.Subscript o i p2) X.env v = (do
      let ov ← holding [v] (eval o X.env)
      let iv ← holding [v, ov] (eval i X.env)
      standAt p2
      holding [v, ov, iv] (setItem ov iv v)
      release [v, ov, iv] []) := by intro _; rfl) : DS g lv X W (.Assign [.Subscript o i p2] value pos) (sSub f k h) := ⟨fun c => (ps_asg (hv.run c) (pg_sub (ho.run c) (hi.run c) (set_list.orD (set_dict (by have := c.hu; omega))) ha) hs hw h1).wk fun Dn σ H q => by
  obtain ⟨ia, E, S, A, e0, p⟩ := q
  refine ⟨ia, E, S, A, e0, (PostS.ofR (rel := relD g) e0 p).mono (fun v H1 h1 => ?_) fun _ _ _ h => h⟩
  obtain ⟨ia1, vd, S1, x1, A1, rv, e1, p1⟩ := h1
  refine ⟨ia1, E, S1, A1, e1, (PostS.ofR (rel := relD g) e1 p1).mono (fun x H2 h2 => ?_) fun _ _ _ h => h⟩
  obtain ⟨ia2, od, S2, x2, A2, ro, e2, p2⟩ := h2
  refine ⟨ia2, E, S2, A2, e2, (PostS.ofR (rel := relD g) e2 p2).mono (fun y H3 h3 => ?_) fun _ _ _ h => h⟩
  obtain ⟨ia3, yd, S3, x3, A3, ry, e3, p3⟩ := h3
  cases hst : stSub od yd vd S3 with
  | none => rw [hst] at p3; exact p3.elim
  | some S4 =>
    rw [hst] at p3
    exact st_sub A3 (ro.ext x3) ry ((rv.ext x2).ext x3) hst fun H' xx A' => p3 ia3 H' σ xx A' (e3.ext xx)⟩
def sDel (f k : EF) : SF := fun E S => RS.of (f E S) E fun o S1 => RS.of (k E S1) E fun y S2 => match o with
  | .ref n => match S2[n]? with
    | some (.dic kvs) => match keyD y with
      | some _ => match dGet kvs y with
        | some _ => .nx E (S2.set n (.dic (dDel kvs y)))
        | none => .bad
      | none => .bad
    | _ => .bad
  | _ => .bad
theorem ds_del (ho : DE g lv X W o f) (hi : DE g lv X W i k) : DS g lv X W (.Delete [.Subscript o i tpos] pos) (sDel f k) := ⟨fun c => (ps_ddel (ho.run c) (hi.run c)).wk fun Dn σ H q => by
  obtain ⟨ia, E, S, A, e0, p⟩ := q
  refine ⟨ia, E, S, A, e0, (PostS.ofR (rel := relD g) e0 p).mono (fun v H1 h1 => ?_) fun _ _ _ h => h⟩
  obtain ⟨ia1, od, S1, x1, A1, ro, e1, p1⟩ := h1
  refine ⟨ia1, E, S1, A1, e1, (PostS.ofR (rel := relD g) e1 p1).mono (fun y H2 h2 => ?_) fun _ _ _ h => h⟩
  obtain ⟨ia2, yd, S2, x2, A2, ry, e2, p2⟩ := h2
  cases ro with
  | @ref aa n hn =>
    try simp only at p2
    cases ho : S2[n]? with
    | none => rw [ho] at p2; exact p2.elim
    | some ob =>
      rw [ho] at p2
      cases ob with
      | dic kvs =>
        try simp only at p2
        cases hy : keyD yd with
        | none => rw [hy] at p2; exact p2.elim
        | some kk =>
          rw [hy] at p2
          try simp only at p2
          cases hd : dGet kvs yd with
          | none => rw [hd] at p2; exact p2.elim
          | some d =>
            rw [hd] at p2
            obtain ⟨vs, h1, h2⟩ := A2.obj' (x2.at hn) ho
            refine ⟨aa, vs, kk, rfl, h1, keyD_den hy ry, ?_, ?_⟩
            · rcases dGet_ok hy h2 with ⟨z1, z2⟩ | ⟨d', v', z1, z2, r⟩
              · rw [z1] at hd; cases hd
              · rw [z2]; rfl
            · have xx : Ext ia2 H2 ia2 (upd H2 aa (.dK (dropK vs kk))) := Ext.chg h1 (fun _ z => nomatch z) (fun _ _ z => nomatch z)
              exact p2 ia2 _ σ xx (A2.set (x2.at hn) h1 (fun _ z => nomatch z) (fun _ _ z => nomatch z) ⟨_, upd_same, L2.Paired.mapP (dDel_ok hy h2) fun _ _ r => r.ext xx⟩) (e2.ext xx)
      | _ => exact p2.elim
  | _ => exact p2.elim⟩

/-! ### truth -/
def truD (d : D) (S : Sto) : Option Bool := match d with
  | .non => some false
  | .bl b => some b
  | .int i => some (i != 0)
  | .str x => if x.length ≤ LINE then some (!x.isEmpty) else none
  | .tup l => some (!l.isEmpty)
  | .ref n => match S[n]? with
    | some (.lst l) => some (!l.isEmpty)
    | some (.frz l) => some (!l.isEmpty)
    | some (.dic l) => some (!l.isEmpty)
    | _ => none
theorem tru_at {ia : List Addr} {H : Hp} {S : Sto} (A : Abs g ia H S) {v : V} {d : D} {t : Bool} (r : Den g.K ia H v d) (h : truD d S = some t) : TruV g.K v H t := by
  cases r with
  | non => cases h; rfl
  | bl b => cases h; rfl
  | int i => cases h; rfl
  | str x =>
    simp only [truD] at h
    by_cases hl : x.length ≤ LINE
    · rw [if_pos hl] at h
      have h := Option.some.inj h
      subst h
      refine ⟨by rw [T_len]; exact LINE_le hl, ?_⟩
      rw [T_len]
      cases x with
      | nil => rfl
      | cons c r =>
        simp
        omega
    · rw [if_neg hl] at h; cases h
  | @tup aa vs ds ht hs =>
    cases h
    refine .inr (.inl ⟨vs, ht, ?_⟩)
    cases hs <;> rfl
  | @ref aa n hn =>
    cases ho : S[n]? with
    | none => simp only [truD, ho] at h; cases h
    | some ob =>
      simp only [truD, ho] at h
      cases ob with
      | lst l =>
        cases h
        obtain ⟨vs, h1, h2⟩ := SqL_of rfl (A.obj' hn ho) (.inl rfl)
        refine .inl ⟨vs, h1, ?_⟩
        cases h2 <;> rfl
      | frz l =>
        cases h
        obtain ⟨vs, h1, h2⟩ := SqL_of rfl (A.obj' hn ho) (.inr rfl)
        refine .inl ⟨vs, h1, ?_⟩
        cases h2 <;> rfl
      | dic l =>
        cases h
        obtain ⟨vs, h1, h2⟩ := A.obj' hn ho
        refine .inr (.inr ⟨vs, h1, ?_⟩)
        cases h2 <;> rfl
      | _ => cases h
def tTru (f : EF) : TF := fun E S => (f E S).bind fun d S1 => match truD d S1 with
  | some b => .ok b S1
  | none => .bad
theorem dt_tru (ha : DE g lv X W a f) (he : ∀ whole, isTrue a X.env whole = (do let v ← whole; standAt a.pos; holding [v] (truthy v)) := by intro _; rfl) : DT g lv X W a (tTru f) := ⟨fun c => (pt_truth (ha.run c) he).wk fun σ H Q q => by
  obtain ⟨ia, E, S, A, e0, p⟩ := q
  refine ⟨ia, E, S, A, e0, (Post.bind (rel := relD g) p).mono (fun v H1 h1 => ?_) fun _ _ _ h => h⟩
  obtain ⟨ia1, d, S1, x1, A1, ra, p1⟩ := h1
  try simp only at p1
  cases ht : truD d S1 with
  | none => rw [ht] at p1; exact p1.elim
  | some t =>
    rw [ht] at p1
    exact ⟨t, by rw [c.K]; exact tru_at A1 ra ht, p1 ia1 H1 _ .refl A1 rfl⟩⟩
/-- a or b, by truth -/
def eOrV (f k : EF) : EF := fun E S => (f E S).bind fun d S1 => match truD d S1 with
  | some true => .ok d S1
  | some false => k E S1
  | none => .bad
theorem de_orV {rest : List Expr} (ha : DE g lv X W a f) (hb : DE g lv X W (.BoolOp .Or (b :: rest) pos) k) : DE g lv X W (.BoolOp .Or (a :: b :: rest) pos) (eOrV f k) := ⟨fun c => (pe_orT (ha.run c) (hb.run c)).wk fun σ H Q q => by
  obtain ⟨ia, E, S, A, e0, p⟩ := q
  refine ⟨ia, E, S, A, e0, (Post.bind (rel := relD g) p).mono (fun v H1 h1 => ?_) fun _ _ _ h => h⟩
  obtain ⟨ia1, d, S1, x1, A1, ra, p1⟩ := h1
  try simp only at p1
  cases ht : truD d S1 with
  | none => rw [ht] at p1; exact p1.elim
  | some t =>
    rw [ht] at p1
    refine ⟨t, by rw [c.K]; exact tru_at A1 ra ht, ?_⟩
    cases t with
    | true => rw [if_pos rfl]; exact p1 ia1 H1 _ .refl A1 ra
    | false => rw [if_neg (by simp)]; exact ⟨ia1, E, S1, A1, e0.ext x1, p1⟩⟩

/-! ### f-strings -/
def eFmt (f : EF) : EF := fun E S => (f E S).bind fun d S1 => match d with
  | .str x => if x.length ≤ LINE then .ok (.str x) S1 else .bad
  | .int i => if smallI i = true then .ok (.str (sInt i)) S1 else .bad
  | _ => .bad
theorem de_fmt (he : DE g lv X W e f) : DE g lv X W (.FormattedValue e (-1) none pos) (eFmt f) := ⟨fun c => (pe_fmt (he.run c)).wk fun σ H Q q => by
  obtain ⟨ia, E, S, A, e0, p⟩ := q
  refine ⟨ia, E, S, A, e0, (Post.bind (rel := relD g) p).mono (fun v H1 h1 => ?_) fun _ _ _ h => h⟩
  obtain ⟨ia1, d, S1, x1, A1, ra, p1⟩ := h1
  cases ra with
  | str x =>
    try simp only at p1
    by_cases hl : x.length ≤ LINE
    · rw [if_pos hl] at p1
      exact .inl ⟨_, rfl, by rw [T_len]; exact LINE_le hl, p1 ia1 H1 _ .refl A1 (.str _)⟩
    · rw [if_neg hl] at p1; exact p1.elim
  | int i =>
    try simp only at p1
    by_cases hl : smallI i = true
    · rw [if_pos hl] at p1
      exact .inr ⟨i, rfl, of_decide_eq_true hl, by have := p1 ia1 H1 _ .refl A1 (.str (sInt i)); rw [T_sInt] at this; exact this⟩
    · rw [if_neg hl] at p1; exact p1.elim
  | _ => exact p1.elim⟩
/-- the parts, one behind another -/
def jsN : List EF → List Nat → Env → Sto → R (List Nat)
  | [], acc, _, S => .ok acc S
  | f :: fs, acc, E, S => (f E S).bind fun d S1 => match d with
    | .str y => if acc.length + y.length ≤ LINE then jsN fs (acc ++ y) E S1 else .bad
    | _ => .bad
inductive DJ (g : G) (lv : Nat) (X : Cx) (W : WX) : List Expr → List EF → Prop where
  | nil : DJ g lv X W [] []
  | cons {e : Expr} {f : EF} {es : List Expr} {fs : List EF} (h : DE g lv X W e f) (r : DJ g lv X W es fs) : DJ g lv X W (e :: es) (f :: fs)
theorem DJ.pj {es : List Expr} {fs : List EF} (h : DJ g lv X W es fs) (c : Ctx g lv X W) : PJ X es (fs.map (tD g W)) := by
  induction h with
  | nil => exact .nil
  | cons h r ih => exact .cons (h.run c) ih
def eJoin (fs : List EF) : EF := fun E S => (jsN fs [] E S).bind fun s S1 => .ok (.str s) S1
theorem js_post {σ : L2.St} {Q : VK} : ∀ (fs : List EF) (acc : List Nat) (ia : List Addr) (E : Env) (S : Sto) (H : Hp), Abs g ia H S → EDen g.K ia H σ E → Post g ia H (fun c d H' => W c d σ H') (relD g) ((jsN fs acc E S).bind fun s S1 => .ok (.str s) S1) Q →
    tJs (fs.map (tD g W)) (T acc) σ H fun out H1 => Q (.str out) H1
  | [], acc, ia, E, S, H, A, e0, p => p ia H _ .refl A (.str acc)
  | f :: fs, acc, ia, E, S, H, A, e0, p => by
    have p' : Post g ia H (fun c d H' => W c d σ H') (relD g) ((f E S).bind fun d S1 => (match d with
      | .str y => if acc.length + y.length ≤ LINE then jsN fs (acc ++ y) E S1 else .bad
      | _ => .bad : R (List Nat)).bind fun s S1 => .ok (.str s) S1) Q := by
      unfold jsN at p
      cases hf : f E S <;> rw [hf] at p <;> exact p
    show tD g W f σ H _
    refine ⟨ia, E, S, A, e0, (Post.bind (rel := relD g) p').mono (fun v H1 h1 => ?_) fun _ _ _ h => h⟩
    obtain ⟨ia1, d, S1, x1, A1, ra, p1⟩ := h1
    cases ra with
    | str y =>
      try simp only at p1
      by_cases hl : acc.length + y.length ≤ LINE
      · rw [if_pos hl] at p1
        refine ⟨_, rfl, ?_, ?_⟩
        · rw [T_app, T_len, List.length_append]; exact LINE_le hl
        · rw [T_app]
          exact js_post fs (acc ++ y) ia1 E S1 H1 A1 (e0.ext x1) p1
      · rw [if_neg hl] at p1; exact p1.elim
    | _ => exact p1.elim
theorem de_join {v1 v2 : Expr} {rest : List Expr} {fs : List EF} (h : DJ g lv X W (v1 :: v2 :: rest) fs) : DE g lv X W (.JoinedStr (v1 :: v2 :: rest) pos) (eJoin fs) := ⟨fun c => (pe_joined (h.pj c)).wk fun σ H Q q => by
  obtain ⟨ia, E, S, A, e0, p⟩ := q
  exact js_post fs [] ia E S H A e0 p⟩

/-! ### a <= b <= c -/
def eChain (o1 o2 : D → D → Sto → R D) (f k h : EF) : EF := fun E S => (f E S).bind fun x S1 => (k E S1).bind fun y S2 => (o1 x y S2).bind fun z S3 => match z with
  | .bl true => (h E S3).bind fun w S4 => o2 y w S4
  | .bl false => .ok (.bl false) S3
  | _ => .bad
theorem chain_post {r r' : R2} {o1 o2 : D → D → Sto → R D} (h1 : Op2 g r o1) (h2 : Op2 g r' o2) (hr : ∀ x y H Q Q', (∀ v H', Q v H' → Q' v H') → r x y H Q → r x y H Q') {σ : L2.St} {H : Hp} {Q : VK} (q : tD g W (eChain o1 o2 f k h) σ H Q) : tChain r r' (tD g W f) (tD g W k) (tD g W h) σ H Q := by
  obtain ⟨ia, E, S, A, e0, p⟩ := q
  refine ⟨ia, E, S, A, e0, (Post.bind (rel := relD g) p).mono (fun v H1 g1 => ?_) fun _ _ _ h => h⟩
  obtain ⟨ia1, a, S1, x1, A1, ra, p1⟩ := g1
  refine ⟨ia1, E, S1, A1, e0.ext x1, (Post.bind (rel := relD g) p1).mono (fun w H2 g2 => ?_) fun _ _ _ h => h⟩
  obtain ⟨ia2, b, S2, x2, A2, rb, p2⟩ := g2
  refine hr _ _ _ _ _ (fun z H3 g3 => ?_) (h1 ia2 H2 S2 v w a b _ _ A2 (ra.ext x2) rb (Post.bind (rel := relD g) p2))
  obtain ⟨ia3, zd, S3, x3, A3, rz, p3⟩ := g3
  cases rz with
  | bl t =>
    refine ⟨t, rfl, ?_⟩
    cases t with
    | true =>
      rw [if_pos rfl]
      refine ⟨ia3, E, S3, A3, ((e0.ext x1).ext x2).ext x3, (Post.bind (rel := relD g) p3).mono (fun u H4 g4 => ?_) fun _ _ _ h => h⟩
      obtain ⟨ia4, ud, S4, x4, A4, ru, p4⟩ := g4
      exact h2 ia4 H4 S4 w u b ud Q _ A4 ((rb.ext x3).ext x4) ru p4
    | false =>
      rw [if_neg (by simp)]
      exact p3 ia3 H3 _ .refl A3 (.bl false)
  | _ => exact p3.elim
theorem rI0_mono {hh : Int → Int → V} : ∀ x y H (Q Q' : VK), (∀ v H', Q v H' → Q' v H') → rI0 hh x y H Q → rI0 hh x y H Q' := fun x y H Q Q' m q => by
  obtain ⟨i, j, e1, e2, q⟩ := q
  exact ⟨i, j, e1, e2, m _ _ q⟩
theorem de_lele (ha : DE g lv X W a f) (hb : DE g lv X W b k) (hc : DE g lv X W c h) (hm : lastMarks [.LtE, .LtE] [b, c] = false := by with_unfolding_all rfl) : DE g lv X W (.Compare a [.LtE, .LtE] [b, c] pos) (eChain oLe oLe f k h) :=
  ⟨fun cc => (pe_chain op_le op_le (ha.run cc) (hb.run cc) (hc.run cc) hm).wk fun _ _ _ q => chain_post (o2_I0 fun _ _ _ _ => .bl _) (o2_I0 fun _ _ _ _ => .bl _) rI0_mono q⟩
theorem dt_lele (ha : DE g lv X W a f) (hb : DE g lv X W b k) (hc : DE g lv X W c h) (hm : lastMarks [.LtE, .LtE] [b, c] = false := by with_unfolding_all rfl) : DT g lv X W (.Compare a [.LtE, .LtE] [b, c] pos) (tOfE (eChain oLe oLe f k h)) :=
  ⟨fun cc => (pt_chain op_le op_le (ha.run cc) (hb.run cc) (hc.run cc) hm).wk fun _ _ _ q => chain_post (o2_I0 fun _ _ _ _ => .bl _) (o2_I0 fun _ _ _ _ => .bl _) rI0_mono (toBool q)⟩
end
end DL
end OfDL9

section OfDL10
set_option Elab.async false
set_option linter.all false
set_option maxRecDepth 100000
/-! DL10: comprehensions -/
namespace DL
open PySem PySem.Spec PyProof.Rows L2
open PySem.SeqAt

section
variable {g : G} {lv : Nat} {X : Cx} {W : WX} {pos ppos apos cpos p2 tpos : Pos} {a b c e o i : Expr} {f k h : EF} {u : AF} {es : List Expr}
/-- nothing flies within a block -/
abbrev Wf : WX := fun _ _ _ _ => False
def Ctx.blk (c : Ctx g lv X W) (s : Shared) (H : Hp) (scope : Scope) (env : PySem.Env) (fp : List Addr) : Ctx g lv (X.blk s H scope env fp) Wf :=
  ⟨c.K, fun u s' ⟨_, _, _, _, _, _, _, _, _, _, _, _, _, _, _, _, w⟩ => w.elim, c.calm, c.room⟩
@[reducible] def R.bindB {α β : Type} (r : R α) (f : α → Sto → R β) : R β := match r with
  | .ok a S => f a S
  | _ => .bad
theorem Post.bindB {α β γ δ : Type} {ia : List Addr} {H : Hp} {W1 W2 : XK} {rel : List Addr → Hp → β → α → Prop} {rel2 : List Addr → Hp → δ → γ → Prop} {r : R α} {f : α → Sto → R γ} {Q : δ → Hp → Prop} (h : Post g ia H W1 rel2 (r.bindB f) Q) :
    Post g ia H W2 rel r (fun v H' => ∃ ia' a S', Ext ia H ia' H' ∧ Abs g ia' H' S' ∧ rel ia' H' v a ∧ Post g ia' H' W1 rel2 (f a S') Q) := by
  cases r with
  | ok a S' => exact fun ia' H' v x' A r' => ⟨ia', a, S', x', A, r', Post.later x' h⟩
  | err a S' => exact h.elim
  | bad => exact h
def wipeE (E : Env) : List Nat → Env
  | [] => E
  | v :: vs => (wipeE E vs).set v none
theorem EDen.wipe {K : PySem.W.Frag} {ia : List Addr} {H : Hp} {σ : L2.St} {E : Env} (r : EDen K ia H σ E) : ∀ vs, EDen K ia H (L2.wipe σ vs) (wipeE E vs)
  | [] => r
  | v :: vs => EDen.set .none v (EDen.wipe r vs)
theorem wipe_get (σ : L2.St) (j : Nat) : ∀ vs : List Nat, (L2.wipe σ vs)[j]? = if j ∈ vs then (σ[j]?).map (fun _ => none) else σ[j]?
  | [] => by simp [L2.wipe]
  | v :: vs => by
    unfold L2.wipe
    have ih := wipe_get σ j vs
    have hl := wipe_length σ vs
    by_cases hv : v = j
    · subst hv
      rw [if_pos (by simp)]
      by_cases hb : v < σ.length
      · rw [List.getElem?_set_self (by rw [hl]; exact hb)]
        simp [hb]
      · rw [List.getElem?_eq_none (by rw [List.length_set, hl]; omega), List.getElem?_eq_none (by omega)]
        rfl
    · rw [List.getElem?_set_ne hv, ih]
      by_cases hm : j ∈ vs
      · rw [if_pos hm, if_pos (List.mem_cons_of_mem _ hm)]
      · rw [if_neg hm, if_neg (fun z => (List.mem_cons.mp z).elim (fun e => hv e.symm) hm)]
theorem wipe_off {σ σ2 : L2.St} {o vs : List Nat} (hs : ∀ j ∈ o, j ∈ vs) (h : Off o (L2.wipe σ vs) σ2) : L2.wipe σ2 vs = L2.wipe σ vs := by
  refine List.ext_getElem? fun j => ?_
  rw [wipe_get, wipe_get]
  have hl : σ2.length = σ.length := by rw [h.1, wipe_length]
  by_cases hm : j ∈ vs
  · rw [if_pos hm, if_pos hm]
    by_cases hb : j < σ.length
    · simp [hb, hl]
    · rw [List.getElem?_eq_none (by omega), List.getElem?_eq_none (by omega)]
  · rw [if_neg hm, if_neg hm, h.2 j (fun z => hm (hs j z)), wipe_get, if_neg hm]
/-- the ifs -/
structure DTs (g : G) (lv : Nat) (X : Cx) (W : WX) (ifs : List Expr) (p : TF) : Prop where run : Ctx g lv X W → PTs X ifs (tT g W p)
def tYesF : TF := fun _ S => .ok true S
theorem dts_nil : DTs g lv X W [] tYesF := ⟨fun c => ⟨fun pins s σ H Q I q => by
  obtain ⟨ia, E, S, A, e0, p⟩ := q
  exact pts_nil.run pins s σ H Q I (p ia H true .refl A rfl)⟩⟩
theorem dts_one {p : TF} (h : DT g lv X W c p) : DTs g lv X W [c] p := ⟨fun cc => pts_one (h.run cc)⟩

/-! ### [e for t in it if ..] -/
def lcPut (D : Nat) (y : DL.D) (S : Sto) : Option Sto := match S[D]? with
  | some (.lst acc) => if acc.length < LINE then some (S.set D (.lst (acc ++ [y]))) else none
  | _ => none
def lcN (s : Src) (t : TgF) (p : TF) (f : EF) (E0 : Env) (D : Nat) : Nat → Nat → Sto → R DL.D
  | 0, i, S => match s.nxt i S with
    | some none => .ok (.ref D) S
    | _ => .bad
  | m + 1, i, S => match s.nxt i S with
    | some none => .ok (.ref D) S
    | some (some d) => match t d E0 with
      | some E1 => (p E1 S).bindB fun b S1 => if b = true then (f E1 S1).bindB fun y S2 => match lcPut D y S2 with
          | some S3 => lcN s t p f E0 D m (i + 1) S3
          | none => .bad
        else lcN s t p f E0 D m (i + 1) S1
      | none => .bad
    | none => .bad
def eLc (own : List Nat) (wi : IF) (t : TgF) (p : TF) (f : EF) : EF := fun E S => (wi E S).bind fun src S1 => lcN src t p f (wipeE E own) S1.length src.n 0 (S1 ++ [.lst []])
/-- a measure's state of a comprehension -/
theorem lc_post {wi : IF} {t : TgF} {p : TF} {f : EF} {own o : List Nat} (ho : ∀ j ∈ o, j ∈ own) {σ : L2.St} {H : Hp} {Q : VK} (q : tD g W (eLc own wi t p f) σ H Q) : tLc (tI g W wi) (tG g o t) (tT g Wf p) (tD g Wf f) own σ H Q := by
  obtain ⟨ia, E, S, A, e0, q⟩ := q
  refine ⟨ia, E, S, A, e0, (Post.bind (rel := ItOk g) q).mono (fun J H1 h1 => ?_) fun _ _ _ h => h⟩
  obtain ⟨ia1, src, S1, x1, A1, ok, p1⟩ := h1
  intro Da hDa
  obtain ⟨A2, x2⟩ := A1.push (o := .lst []) (ho := .lst []) hDa fun ia' H' _ e => ⟨[], e, .nil⟩
  have hD2 : (ia1 ++ [Da])[S1.length]? = some Da := by rw [← A1.len]; simp
  refine ⟨fun i m H => ∃ ia2 S2, Ext (ia1 ++ [Da]) (upd H1 Da (.lst [])) ia2 H ∧ Abs g ia2 H S2 ∧ Post g ia2 H (fun c d H' => W c d σ H') (relD g) (lcN src t p f (wipeE E own) S1.length m i S2) Q, ⟨src.n, _, _, .refl, A2, Post.later x2 p1⟩, ?_⟩
  rintro i m H2 ⟨ia2, S2, x3, A3, p2⟩
  have e2 : EDen g.K ia2 H2 (L2.wipe σ own) (wipeE E own) := EDen.wipe (((e0.ext x1).ext x2).ext x3) own
  have hD3 := x3.at hD2
  obtain ⟨k1, k2⟩ := ok ia2 H2 S2 (x2.trans x3) A3 i
  cases hn : src.nxt i S2 with
  | none => cases m <;> (unfold lcN at p2; rw [hn] at p2; exact p2.elim)
  | some od =>
    cases od with
    | none =>
      refine .inl ⟨k1 hn, ?_⟩
      have p3 : Post g ia2 H2 (fun c d H' => W c d σ H') (relD g) (.ok (.ref S1.length) S2) Q := by cases m <;> (unfold lcN at p2; rw [hn] at p2; exact p2)
      exact p3 ia2 H2 _ .refl A3 (.ref hD3)
    | some d =>
      obtain ⟨k3, k4⟩ := k2 d hn
      cases m with
      | zero => unfold lcN at p2; rw [hn] at p2; exact p2.elim
      | succ m =>
        unfold lcN at p2
        rw [hn] at p2
        simp only at p2
        refine .inr ⟨k3, fun H => ∃ ia2 S2, Ext (ia1 ++ [Da]) (upd H1 Da (.lst [])) ia2 H ∧ Abs g ia2 H S2 ∧ Post g ia2 H (fun c d H' => W c d σ H') (relD g) (lcN src t p f (wipeE E own) S1.length m (i + 1) S2) Q, fun H' h => ⟨m, Nat.lt_succ_self _, h⟩, fun x H3 hy => ?_⟩
        obtain ⟨ia3, x4, A4, r4⟩ := k4 x H3 hy
        cases ht : t d (wipeE E own) with
        | none => rw [ht] at p2; exact p2.elim
        | some E1 =>
          rw [ht] at p2
          simp only at p2
          refine ⟨ia3, _, S2, d, E1, A4, e2.ext x4, r4, ht, fun σ4 e4 off => ⟨wipe_off ho off, ia3, E1, S2, A4, e4, (Post.bindB (rel := relB) (Post.later x4 p2)).mono (fun bb H5 h5 => ?_) fun _ _ _ h => h⟩⟩
          obtain ⟨ia5, b', S5, x5, A5, rfl, p5⟩ := h5
          have x35 := x3.trans (x4.trans x5)
          by_cases hb : bb = true
          · rw [if_pos hb] at p5 ⊢
            refine ⟨ia5, E1, S5, A5, e4.ext x5, (Post.bindB (rel := relD g) p5).mono (fun y H6 h6 => ?_) fun _ _ _ h => h⟩
            obtain ⟨ia6, yd, S6, x6, A6, ry, p6⟩ := h6
            have hD6 := (x35.trans x6).at hD2
            cases hS : S6[S1.length]? with
            | none => simp only [lcPut, hS] at p6; exact p6.elim
            | some ob =>
              simp only [lcPut, hS] at p6
              cases ob with
              | lst acc =>
                simp only at p6
                by_cases hl : acc.length < LINE
                · rw [if_pos hl] at p6
                  obtain ⟨vs, h1, h2⟩ := A6.obj' hD6 hS
                  have xx : Ext ia6 H6 ia6 (upd H6 Da (.lst (vs ++ [y]))) := Ext.chg h1 (fun _ z => nomatch z) (fun _ _ z => nomatch z)
                  exact ⟨vs, h1, by rw [h2.length]; exact LINE_lt hl, ia6, _, (x35.trans x6).trans xx, A6.set (o := .lst (acc ++ [yd])) hD6 h1 (fun _ z => nomatch z) (fun _ _ z => nomatch z) ⟨_, upd_same, (h2.append (.cons ry .nil)).ext xx⟩, Post.later xx p6⟩
                · rw [if_neg hl] at p6; exact p6.elim
              | _ => exact p6.elim
          · rw [if_neg hb] at p5 ⊢
            exact ⟨ia5, S5, x35, A5, p5⟩
abbrev Blk (X : Cx) (scope : Scope) (P : Cx → Prop) : Prop := ∀ (s : Shared) (H : Hp) (C : Addr) (cl : List (Str × Addr)) (fp : List Addr), P (X.blk s H scope (compEnvC scope cl C X.env) fp)
variable {elt tg iter kx vx : Expr} {ifs : List Expr} {scope : Scope} {own : List (Str × Nat)} {spos py : Pos} {wi : IF} {t : TgF} {p : TF} {oo : List Nat}
theorem de_lc (hN : X.N.Nodup) (ok : blkC X.N X.env.scope scope own = true) (ho : ∀ j ∈ oo, j ∈ own.map (·.2)) (hi : DI g lv X W tg iter wi) (hg : Blk X scope fun Y => DG g lv Y Wf tg oo t) (ht : Blk X scope fun Y => DTs g lv Y Wf ifs p) (he : Blk X scope fun Y => DE g lv Y Wf elt f)
    (hs : ∀ x, foldedSetIterable iter X.env x = pure x := by intro _; rfl) : DE g lv X W (.ListComp elt [⟨tg, iter, ifs, 0⟩] scope pos) (eLc (own.map (·.2)) wi t p f) :=
  ⟨fun c => (pe_lc c.calm hN (hi.run c) (blkOk_by ok) (fun s H C cl fp => (hg s H C cl fp).run (c.blk _ _ _ _ _)) (fun s H C cl fp => (ht s H C cl fp).run (c.blk _ _ _ _ _)) (fun s H C cl fp => (he s H C cl fp).run (c.blk _ _ _ _ _)) hs).wk fun σ H Q q => lc_post ho q⟩
theorem ds_setLc {i : Nat} {y : Str} (hN : X.N.Nodup) (hy : X.N[i]? = some y) (hyl : X.env.scope.names.lookup y = some .local) (hsw : swapsWith (.ListComp elt [⟨tg, iter, ifs, 0⟩] scope pos) (some (.Name y py)) spos.line X.env = pure true)
    (ok : blkC X.N X.env.scope scope own = true) (ho : ∀ j ∈ oo, j ∈ own.map (·.2)) (hi : DI g lv X W tg iter wi) (hg : Blk X scope fun Y => DG g lv Y Wf tg oo t) (ht : Blk X scope fun Y => DTs g lv Y Wf ifs p) (he : Blk X scope fun Y => DE g lv Y Wf elt f)
    (hs : ∀ x, foldedSetIterable iter X.env x = pure x := by intro _; rfl) : DS g lv X W (.Assign [.Name y py] (.ListComp elt [⟨tg, iter, ifs, 0⟩] scope pos) spos) (sAsg (eLc (own.map (·.2)) wi t p f) (gNm i)) :=
  ⟨fun c => (ps_setLc c.calm hN hy hyl hsw (hi.run c) (blkOk_by ok) (fun s H C cl fp => (hg s H C cl fp).run (c.blk _ _ _ _ _)) (fun s H C cl fp => (ht s H C cl fp).run (c.blk _ _ _ _ _)) (fun s H C cl fp => (he s H C cl fp).run (c.blk _ _ _ _ _)) hs).wk fun Dn σ H q => by
    obtain ⟨ia, E, S, A, e0, q⟩ := q
    show tLc _ _ _ _ _ σ H _
    refine lc_post ho ⟨ia, E, S, A, e0, (PostS.ofR (rel := relD g) e0 q).mono (fun v H1 h1 => ?_) fun _ _ _ h => h⟩
    obtain ⟨ia1, y, S1, x1, A1, ra, e1, p1⟩ := h1
    exact p1 ia1 H1 _ .refl A1 (e1.set (.some ra) i)⟩

/-! ### {k: v for t in it if ..} -/
def dcPut (D : Nat) (k y : DL.D) (S : Sto) : Option Sto := match S[D]? with
  | some (.dic kvs) => match keyD k with
    | some _ => if kvs.length < LINE then some (S.set D (.dic (dPut kvs k y))) else none
    | none => none
  | _ => none
def dcN (s : Src) (t : TgF) (p : TF) (f k : EF) (E0 : Env) (D : Nat) : Nat → Nat → Sto → R DL.D
  | 0, i, S => match s.nxt i S with
    | some none => .ok (.ref D) S
    | _ => .bad
  | m + 1, i, S => match s.nxt i S with
    | some none => .ok (.ref D) S
    | some (some d) => match t d E0 with
      | some E1 => (p E1 S).bindB fun b S1 => if b = true then (f E1 S1).bindB fun x S2 => (k E1 S2).bindB fun y S3 => match dcPut D x y S3 with
          | some S4 => dcN s t p f k E0 D m (i + 1) S4
          | none => .bad
        else dcN s t p f k E0 D m (i + 1) S1
      | none => .bad
    | none => .bad
def eDc (own : List Nat) (wi : IF) (t : TgF) (p : TF) (f k : EF) : EF := fun E S => (wi E S).bind fun src S1 => dcN src t p f k (wipeE E own) S1.length src.n 0 (S1 ++ [.dic []])
theorem dc_post {wi : IF} {t : TgF} {p : TF} {f k : EF} {own o : List Nat} (ho : ∀ j ∈ o, j ∈ own) {σ : L2.St} {H : Hp} {Q : VK} (q : tD g W (eDc own wi t p f k) σ H Q) : tDc (tI g W wi) (tG g o t) (tT g Wf p) (tD g Wf f) (tD g Wf k) own σ H Q := by
  obtain ⟨ia, E, S, A, e0, q⟩ := q
  refine ⟨ia, E, S, A, e0, (Post.bind (rel := ItOk g) q).mono (fun J H1 h1 => ?_) fun _ _ _ h => h⟩
  obtain ⟨ia1, src, S1, x1, A1, ok, p1⟩ := h1
  intro Da hDa
  obtain ⟨A2, x2⟩ := A1.push (o := .dic []) (ho := .dK []) hDa fun ia' H' _ e => ⟨[], e, .nil⟩
  have hD2 : (ia1 ++ [Da])[S1.length]? = some Da := by rw [← A1.len]; simp
  refine ⟨fun i m H => ∃ ia2 S2, Ext (ia1 ++ [Da]) (upd H1 Da (.dK [])) ia2 H ∧ Abs g ia2 H S2 ∧ Post g ia2 H (fun c d H' => W c d σ H') (relD g) (dcN src t p f k (wipeE E own) S1.length m i S2) Q, ⟨src.n, _, _, .refl, A2, Post.later x2 p1⟩, ?_⟩
  rintro i m H2 ⟨ia2, S2, x3, A3, p2⟩
  have e2 : EDen g.K ia2 H2 (L2.wipe σ own) (wipeE E own) := EDen.wipe (((e0.ext x1).ext x2).ext x3) own
  have hD3 := x3.at hD2
  obtain ⟨k1, k2⟩ := ok ia2 H2 S2 (x2.trans x3) A3 i
  cases hn : src.nxt i S2 with
  | none => cases m <;> (unfold dcN at p2; rw [hn] at p2; exact p2.elim)
  | some od =>
    cases od with
    | none =>
      refine .inl ⟨k1 hn, ?_⟩
      have p3 : Post g ia2 H2 (fun c d H' => W c d σ H') (relD g) (.ok (.ref S1.length) S2) Q := by cases m <;> (unfold dcN at p2; rw [hn] at p2; exact p2)
      exact p3 ia2 H2 _ .refl A3 (.ref hD3)
    | some d =>
      obtain ⟨k3, k4⟩ := k2 d hn
      cases m with
      | zero => unfold dcN at p2; rw [hn] at p2; exact p2.elim
      | succ m =>
        unfold dcN at p2
        rw [hn] at p2
        simp only at p2
        refine .inr ⟨k3, fun H => ∃ ia2 S2, Ext (ia1 ++ [Da]) (upd H1 Da (.dK [])) ia2 H ∧ Abs g ia2 H S2 ∧ Post g ia2 H (fun c d H' => W c d σ H') (relD g) (dcN src t p f k (wipeE E own) S1.length m (i + 1) S2) Q, fun H' h => ⟨m, Nat.lt_succ_self _, h⟩, fun x H3 hy => ?_⟩
        obtain ⟨ia3, x4, A4, r4⟩ := k4 x H3 hy
        cases ht : t d (wipeE E own) with
        | none => rw [ht] at p2; exact p2.elim
        | some E1 =>
          rw [ht] at p2
          simp only at p2
          refine ⟨ia3, _, S2, d, E1, A4, e2.ext x4, r4, ht, fun σ4 e4 off => ⟨wipe_off ho off, ia3, E1, S2, A4, e4, (Post.bindB (rel := relB) (Post.later x4 p2)).mono (fun bb H5 h5 => ?_) fun _ _ _ h => h⟩⟩
          obtain ⟨ia5, b', S5, x5, A5, rfl, p5⟩ := h5
          have x35 := x3.trans (x4.trans x5)
          by_cases hb : bb = true
          · rw [if_pos hb] at p5 ⊢
            refine ⟨ia5, E1, S5, A5, e4.ext x5, (Post.bindB (rel := relD g) p5).mono (fun yk H6 h6 => ?_) fun _ _ _ h => h⟩
            obtain ⟨ia6, kd, S6, x6, A6, rk, p6⟩ := h6
            refine ⟨ia6, E1, S6, A6, (e4.ext x5).ext x6, (Post.bindB (rel := relD g) p6).mono (fun y H7 h7 => ?_) fun _ _ _ h => h⟩
            obtain ⟨ia7, yd, S7, x7, A7, ry, p7⟩ := h7
            have hD7 := ((x35.trans x6).trans x7).at hD2
            cases hS : S7[S1.length]? with
            | none => simp only [dcPut, hS] at p7; exact p7.elim
            | some ob =>
              simp only [dcPut, hS] at p7
              cases ob with
              | dic acc =>
                simp only at p7
                cases hk : keyD kd with
                | none => rw [hk] at p7; exact p7.elim
                | some kk =>
                  rw [hk] at p7
                  simp only at p7
                  by_cases hl : acc.length < LINE
                  · rw [if_pos hl] at p7
                    obtain ⟨vs, h1, h2⟩ := A7.obj' hD7 hS
                    have hlen := Paired.len h2
                    have xx : Ext ia7 H7 ia7 (upd H7 Da (.dK (putK vs kk y))) := Ext.chg h1 (fun _ z => nomatch z) (fun _ _ z => nomatch z)
                    exact ⟨vs, kk, keyD_den hk rk, h1, by rw [← hlen]; exact LINE_lt hl, ia7, _, ((x35.trans x6).trans x7).trans xx, A7.set (o := .dic (dPut acc kd yd)) hD7 h1 (fun _ z => nomatch z) (fun _ _ z => nomatch z) ⟨_, upd_same, L2.Paired.mapP (dPut_ok hk ry h2) fun _ _ r => r.ext xx⟩, Post.later xx p7⟩
                  · rw [if_neg hl] at p7; exact p7.elim
              | _ => exact p7.elim
          · rw [if_neg hb] at p5 ⊢
            exact ⟨ia5, S5, x35, A5, p5⟩
theorem de_dc (hN : X.N.Nodup) (ok : blkC X.N X.env.scope scope own = true) (ho : ∀ j ∈ oo, j ∈ own.map (·.2)) (hi : DI g lv X W tg iter wi) (hg : Blk X scope fun Y => DG g lv Y Wf tg oo t) (ht : Blk X scope fun Y => DTs g lv Y Wf ifs p) (hk : Blk X scope fun Y => DE g lv Y Wf kx f) (he : Blk X scope fun Y => DE g lv Y Wf vx k)
    (hs : ∀ x, foldedSetIterable iter X.env x = pure x := by intro _; rfl) : DE g lv X W (.DictComp kx vx [⟨tg, iter, ifs, 0⟩] scope pos) (eDc (own.map (·.2)) wi t p f k) :=
  ⟨fun c => (pe_dc c.calm hN (hi.run c) (blkOk_by ok) (fun s H C cl fp => (hg s H C cl fp).run (c.blk _ _ _ _ _)) (fun s H C cl fp => (ht s H C cl fp).run (c.blk _ _ _ _ _)) (fun s H C cl fp => (hk s H C cl fp).run (c.blk _ _ _ _ _)) (fun s H C cl fp => (he s H C cl fp).run (c.blk _ _ _ _ _)) hs).wk fun σ H Q q => dc_post ho q⟩
end
end DL
end OfDL10

section OfDL11
set_option Elab.async false
set_option linter.all false
set_option maxRecDepth 100000
/-! DL11: len(set(xs)) of keys; slices backwards; defs of FunD; statements that are never reached -/
namespace DL
open PySem PySem.Spec PyProof.Rows L2
open PySem.SeqAt

def ddK {K : Type} [DecidableEq K] (l : List K) : List K := l.foldl (fun acc v => if v ∈ acc then acc else acc ++ [v]) []
theorem ddK_snoc {K : Type} [DecidableEq K] (l : List K) (v : K) : ddK (l ++ [v]) = if v ∈ ddK l then ddK l else ddK l ++ [v] := by
  unfold ddK
  rw [List.foldl_append]
  rfl
theorem ddK_len {K : Type} [DecidableEq K] (l : List K) : (ddK l).length ≤ l.length := by
  have h : ∀ (l acc : List K), (l.foldl (fun acc v => if v ∈ acc then acc else acc ++ [v]) acc).length ≤ acc.length + l.length := by
    intro l
    induction l with
    | nil => intro acc; simp
    | cons v r ih =>
      intro acc
      rw [List.foldl_cons]
      refine Nat.le_trans (ih _) ?_
      by_cases hv : v ∈ acc
      · rw [if_pos hv]; simp only [List.length_cons]; omega
      · rw [if_neg hv]; simp only [List.length_cons, List.length_append, List.length_nil]; omega
  have := h l []
  simpa [ddK] using this
section
variable {prog : Program} {w : World} {A : Around} {R : Result → Shared → Prop} {I : Addr} {fp wr : List Addr} {G0 : Array GenState → Array GenState → Prop} {n : Nat} {P : Nat → Value → Prop} {St : Nat → Shared → Prop}
variable {K : Type} [DecidableEq K] {knd : KeyKind prog w K}
theorem set_loopK (W : WalksS prog w A.in1 I fp wr G0 n P St) (S : Addr) (hSf : S ∉ fp) (ks : List K) (hn : ks.length = n) (hval : ∀ i v, P i v → ∃ k, ks[i]? = some k ∧ knd.is k v = true ∧ v.scannable = true) (hb : n + 1 < scanBound) :
    ∀ (k i : Nat) (s : Shared), n - i = k → i ≤ n → St i s →
      s.heap.SetOf knd S (fun k' => decide (k' ∈ ddK (ks.take i))) (ddK (ks.take i)).length →
      (∀ s', Moved (S :: wr) G0 s s' → s'.heap.SetOf knd S (fun k' => decide (k' ∈ ddK (ks.take n))) (ddK (ks.take n)).length → R (.ok (.ret .none)) s') →
      codeAny (model prog w) A (.builtin "set.update.loop" ⟨[.ref S, .ref I], []⟩) R s := by
  have hSw : S ∉ wr := fun h => hSf (W.sub _ h)
  have hsub : ∀ b ∈ wr, b ∈ S :: wr := fun b hb => List.mem_cons_of_mem _ hb
  intro k
  induction k with
  | zero =>
    intro i s hk hi hst hS hR
    have hin : i = n := by omega
    subst hin
    refine codeAny_builtin PyProof.Rows.F.entry_set_update_loop ?_
    rw [Around.under_plainId PyProof.Rows.F.plain_set_update_loop _]
    show wpAny _ A.in1 (pyNext (.ref I) >>= _) _ _ s
    refine wpAny_bind (W.done s _ _ hst fun s' hm => ?_)
    show wpAny _ A.in1 (ret Value.none) _ _ s'
    exact wpAny_pure (hR s' (hm.mono hsub) (by
      obtain ⟨o, es, ep, t, ho, rest⟩ := hS
      exact ⟨o, es, ep, t, hm.heap S _ hSw ho, rest⟩))
  | succ k ih =>
    intro i s hk hi hst hS hR
    have hlt : i < n := by omega
    refine codeAny_builtin PyProof.Rows.F.entry_set_update_loop ?_
    rw [Around.under_plainId PyProof.Rows.F.plain_set_update_loop _]
    show wpAny _ A.in1 (pyNext (.ref I) >>= _) _ _ s
    refine wpAny_bind (W.item i s _ _ hlt hst fun v s' hP hst' hm => ?_)
    obtain ⟨key, hkey, his, hsc⟩ := hval i v hP
    have hS' : s'.heap.SetOf knd S (fun k' => decide (k' ∈ ddK (ks.take i))) (ddK (ks.take i)).length := by
      obtain ⟨o, es, ep, tb, ho, rest⟩ := hS
      exact ⟨o, es, ep, tb, hm.heap S _ hSw ho, rest⟩
    show wpAny _ A.in1 (holding [v] (setAdd S v) >>= _) _ _ s'
    refine wpAny_bind (wpAny_holding ?_)
    unfold setAdd
    refine wpAny_holding ?_
    refine wpAny_bind (knd.pyHash his ?_)
    have hroom : (ddK (ks.take i)).length + 1 < scanBound := by
      have := ddK_len (ks.take i)
      rw [List.length_take] at this
      omega
    refine wpAny_setAddHashed_of (s := { s' with toks := s'.toks + 1 }) his hsc hS' hroom fun h' hsb hS2 => ?_
    have hSi : h'.SetOf knd S (fun k' => decide (k' ∈ ddK (ks.take (i + 1)))) (ddK (ks.take (i + 1))).length := by
      have e : ks.take (i + 1) = ks.take i ++ [key] := by rw [List.take_succ, hkey]; rfl
      have e2 : (fun k' => decide (k' ∈ ddK (ks.take i)) || decide (k' = key)) = fun k' => decide (k' ∈ ddK (ks.take (i + 1))) := by
        funext k'
        rw [e, ddK_snoc]
        by_cases hk : key ∈ ddK (ks.take i)
        · rw [if_pos hk]
          by_cases h1 : k' = key
          · subst h1; simp [hk]
          · simp [h1]
        · rw [if_neg hk]
          simp
      have e3 : (if decide (key ∈ ddK (ks.take i)) = true then (ddK (ks.take i)).length else (ddK (ks.take i)).length + 1) = (ddK (ks.take (i + 1))).length := by
        rw [e, ddK_snoc]
        by_cases hk : key ∈ ddK (ks.take i)
        · simp [hk]
        · simp [hk]
      rw [e2, e3] at hS2
      exact hS2
    refine wpAny_pure ⟨plainId_quiet PyProof.Rows.F.plain_set_update_loop _, ih (i + 1) _ (by omega) hlt (W.frame _ s' _ _ hst' (Nat.le_succ _) fun b hb o e => ?_) hSi fun s'' hm'' hS'' => ?_⟩
    · rw [hsb.2 b (fun h : b = S => hSf (by rw [← h]; exact hb))]; exact e
    · refine hR s'' (Moved.trans W.gtrans ((hm.mono hsub).then_heap (Nat.le_succ _) fun b o hb e => ?_) hm'') hS''
      rw [hsb.2 b (fun h : b = S => hb (by rw [h]; exact List.mem_cons_self))]; exact e
end
section
variable {prog : Program} {w : World} {A : Around} {E : Value → Shared → Prop} {s : Shared} {K : Type} [DecidableEq K] {knd : KeyKind prog w K}
set_option maxHeartbeats 3200000 in
theorem call_set_listK {l : Addr} {items : Array Value} {ks : List K} {Q : Value → Shared → Prop}
    (hh : A.handled = none) (hl : s.heap.IsList l items) (hks : ks.length = items.size) (hval : ∀ (i : Nat) (v : Value), items[i]? = some v → ∃ k, ks[i]? = some k ∧ knd.is k v = true ∧ v.scannable = true) (hb : items.size + 1 < scanBound)
    (h : ∀ (h' : Heap) (tk : Nat), h'.SetOf knd s.heap.objs.size (fun k' => decide (k' ∈ ddK ks)) (ddK ks).length →
      (∀ b o, b < s.heap.objs.size → s.heap.get? b = some o → h'.get? b = some o) → Q (.ref s.heap.objs.size) { s with heap := h', toks := tk }) :
    wpAny (model prog w) A (call (.type "set") [.ref l]) Q E s := by
  obtain ⟨c, tl, hmro⟩ := PySem.F.called_set.mro
  have hmade := PySem.F.called_set.made
  have hsub := PySem.F.called_set.sub
  refine wpAny_call (codeAny_of_tree ?_)
  show wpAny _ _ (callAny (.type "set") _) _ _ _
  refine wpAny_pure ⟨Code.quiet_builtin _ (by decide +kernel), codeAny_builtin PySem.F.entry_type_call ?_⟩
  rw [Around.under_plain (weight_type_call_type "set" [.ref l] []) rfl]
  have h1 := PySem.F.called_set.notType
  have h2 := PySem.F.called_set.canCreate
  have hct := PySem.F.typeCall_set_1 (.ref l)
  repeat (any_goals (first | assumption | wp_step))

  refine codeAny_mono (code_set_new_1 (.ref l) (E := E) (Q₁ := fun obj s₁ => ∃ led : Bool, obj = .ref s.heap.objs.size ∧ s₁ = { s with heap := s.heap.push { cls := .type "set", dict := none, data := .set #[] 0 (.fresh 0 0 led) } }) fun led => ⟨led, rfl, rfl⟩) fun r s₁ hr => ?_
  cases r with
  | error e => exact hr
  | ok fl =>
    cases fl with
    | ret obj =>
      obtain ⟨led, rfl, rfl⟩ := hr
      have hS : (s.heap.push { cls := .type "set", dict := none, data := .set #[] 0 (.fresh 0 0 led) }).get? s.heap.objs.size = some { cls := .type "set", dict := none, data := .set #[] 0 (.fresh 0 0 led) } := Heap.get?_push_size _ rfl
      have hT : Shared.TypeIs { s with heap := s.heap.push { cls := .type "set", dict := none, data := .set #[] 0 (.fresh 0 0 led) } } (.ref s.heap.objs.size) "set" := ⟨_, hS, rfl⟩
      have hli := PySem.F.called_set.init.lookup
      have hbi := PySem.F.called_set.init.bind (.ref s.heap.objs.size)
      repeat (any_goals (first | assumption | wp_step))

      refine codeAny_mono (codeAny_call_builtin (R := wants (fun r s₂ => r = .none ∧ ∃ h' tk, s₂ = { s with heap := h', toks := tk } ∧
          h'.SetOf knd s.heap.objs.size (fun k' => decide (k' ∈ ddK ks)) (ddK ks).length ∧
          (∀ b o, b < s.heap.objs.size → s.heap.get? b = some o → h'.get? b = some o)) E) PySem.F.called_set.init.plain PySem.F.entry_set_init (check_set_init_1 hT ?_)) fun r₂ s₂ hr₂ => ?_
      · obtain ⟨ol, hol, hcl, nl, hdl⟩ := hl
        obtain ⟨ocls, odict, odata, oslots⟩ := ol
        simp only at hcl hdl
        subst hcl; subst hdl
        have hol' : (s.heap.push { cls := .type "set", dict := none, data := .set #[] 0 (.fresh 0 0 led) }).get? l = some { cls := .type "list", dict := odict, data := .seq items nl, slots := oslots } := Heap.get?_push_of_some _ hol
        have hsls := PySem.F.sub_list_set
        have hslf := PySem.F.sub_list_frozenset
        have hne : (Value.type "list" == Value.type "dict") = false := by decide
        have hl1 : (s.heap.push { cls := .type "set", dict := none, data := .set #[] 0 (.fresh 0 0 led) }).IsList l items := ⟨_, hol', rfl, nl, rfl⟩
        unfold Builtin.«set.__init__» noKeywords Builtin.Frozenset.updateFrom
        generalize hPI : pyIter = PI
        wp_walk
        subst hPI

        refine wpAny_pyIter_list hl1 ?_
        refine wpAny_bind (wpAny_runValue ?_)
        have hlS : l < s.heap.objs.size := Heap.lt_size hol
        have hh3 : A.in1.in1.in1.handled = none := by simp [hh]
        have hneI : l ≠ (s.heap.push { cls := .type "set", dict := none, data := .set #[] 0 (.fresh 0 0 led) }).objs.size := by
          rw [Heap.size_push]; exact Nat.ne_of_lt (Nat.lt_succ_of_lt hlS)
        have hSf : s.heap.objs.size ∉ [(s.heap.push { cls := .type "set", dict := none, data := .set #[] 0 (.fresh 0 0 led) }).objs.size, l] := by
          rw [Heap.size_push]; simp only [List.mem_cons, List.mem_singleton, List.not_mem_nil, or_false, not_or]
          exact ⟨Nat.ne_of_lt (Nat.lt_succ_self _), Nat.ne_of_gt hlS⟩
        have htake : ks.take items.size = ks := List.take_of_length_le (by omega)
        refine set_loopK ((Walks.list hh3 _ l hneI items).toS) s.heap.objs.size
          hSf ks hks hval hb (items.size - 0) 0 _ (by omega) (Nat.zero_le _)
          ⟨⟨_, Heap.get?_push_size _ rfl, rfl, rfl⟩, (hl1.push _)⟩ ?hS0 ?hR
        case hS0 =>
          have hget : ((s.heap.push { cls := .type "set", dict := none, data := .set #[] 0 (.fresh 0 0 led) }).push { cls := .type "list_iterator", data := .fields #[.ref l, .int 0 0] }).get? s.heap.objs.size
              = some { cls := .type "set", dict := none, data := .set #[] 0 (.fresh 0 0 led) } := Heap.get?_push_of_some _ hS
          exact ⟨_, #[], 0, _, hget, ⟨rfl, rfl, rfl⟩, rfl, (fun e he => by simp at he), (fun k => by simp [ddK]), (by unfold scanBound; simp), (by rfl), rfl⟩
        case hR =>
          intro s' hm hS'
          rw [htake] at hS'
          obtain ⟨h', g', d', tk', os'⟩ := s'
          have eg : g' = s.gens := hm.gens
          have ed : d' = s.drawn := hm.drawn
          have eo : os' = s.os := hm.os
          subst eg; subst ed; subst eo
          show wpAny _ _ _ _ _ _
          refine wpAny_pure ?_
          show wpAny _ _ (ret Value.none) _ _ _
          refine wpAny_pure ⟨rfl, h', tk', rfl, hS', fun b o hb e => ?_⟩
          have hb1 : b ≠ s.heap.objs.size := Nat.ne_of_lt hb
          have hb2 : b ≠ (s.heap.push { cls := .type "set", dict := none, data := .set #[] 0 (.fresh 0 0 led) }).objs.size := by
            rw [Heap.size_push]; exact Nat.ne_of_lt (Nat.lt_succ_of_lt hb)
          exact hm.heap b o (by simp only [List.mem_cons, List.mem_singleton, List.not_mem_nil, or_false, not_or]; exact ⟨hb1, hb2⟩) (Heap.get?_push_of_some _ (Heap.get?_push_of_some _ e))

      · cases r₂ with
        | error e => exact hr₂
        | ok fl₂ =>
          cases fl₂ with
          | ret r =>
            obtain ⟨rfl, h', tk, rfl, hS', hk'⟩ := hr₂
            repeat (any_goals (first | assumption | wp_step))
            exact h _ _ hS' hk'
          | _ => exact hr₂.elim
    | _ => exact hr.elim
end
end DL
end OfDL11

section OfDL12
set_option Elab.async false
set_option linter.all false
set_option maxRecDepth 100000
/-! DL12: len(set(xs)); slices backwards; defs of FunD; statements that are never reached -/
namespace DL
open PySem PySem.Spec PyProof.Rows L2
open PySem.SeqAt

section
variable {g : G} {lv : Nat} {X : Cx} {W : WX} {pos ppos apos cpos p2 p3 tpos : Pos} {a b c e o i : Expr} {f k h : EF} {u : AF} {es : List Expr}
def lsOf (d : D) (S : Sto) : Option (List D) := match d with
  | .ref n => (S[n]?).bind lstO
  | _ => none
def eLenSet (f : EF) : EF := fun E S => (f E S).bind fun d S1 => match lsOf d S1 with
  | some xs => match xs.mapM keyD with
    | some ks => if ks.length < 4000 then .ok (.int (ddK ks).length) S1 else .bad
    | none => .bad
  | none => .bad
theorem keys_at {K : PySem.W.Frag} {ia : List Addr} {H : Hp} {P : Program} {w : World} : ∀ {xs : List D} {ks : List Key} {vs : List V} {us : List Value}, xs.mapM keyD = some ks → Dens K ia H vs xs → Vals vs us →
    ks.length = us.length ∧ ∀ (j : Nat) (v : Value), us[j]? = some v → ∃ k, ks[j]? = some k ∧ (mixKind P w).is k v = true ∧ v.scannable = true
  | [], ks, _, _, hk, .nil, .nil => by
    simp at hk
    subst hk
    exact ⟨rfl, fun j v h => by simp at h⟩
  | x :: xs, ks, _, _, hk, .cons r t, .cons q s => by
    simp only [List.mapM_cons, Option.bind_eq_bind, Option.pure_def] at hk
    cases h1 : keyD x with
    | none => rw [h1] at hk; simp at hk
    | some k =>
      cases h2 : xs.mapM keyD with
      | none => rw [h1, h2] at hk; simp at hk
      | some ks' =>
        rw [h1, h2] at hk
        simp at hk
        subst hk
        obtain ⟨l1, l2⟩ := keys_at (P := P) (w := w) h2 t s
        refine ⟨by simp [l1], fun j v h => ?_⟩
        cases j with
        | zero =>
          simp at h
          subst h
          have e := keyD_den h1 r
          subst e
          exact ⟨k, rfl, kV_is q, key_scan q⟩
        | succ j => exact l2 j v (by simpa using h)
theorem de_lenSet {pp pq : Pos} (hm : X.mg "len" = none) (hm2 : X.mg "set" = none) (ha : DE g lv X W a f) (hg : Gl X "len" := by rfl) (hg2 : Gl X "set" := by rfl) (na : starEach [a] X.env = (false, eval a X.env) :: starEach [] X.env := by rfl) :
    DE g lv X W (.Call (.Name "len" ppos) [.Call (.Name "set" pp) [a] [] pq] [] pos) (eLenSet f) := ⟨fun c => ⟨fun pins s σ H Q I q => by
  refine Call_ (ld_blt I hg hm boot_len ?_)
  refine PyProof.Rows.callWith_builtin1 (PyProof.Rows.args_cons ?_ rfl) rfl rfl
  refine Call_ (ld_blt I hg2 hm2 boot_set ?_)
  obtain ⟨ia, E, S, A, e0, p⟩ := q
  refine PyProof.Rows.callWith_type1 (PyProof.Rows.args_cons (thn ((ha.run c).run pins s σ H _ I ⟨ia, E, S, A, e0, Post.bind (rel := relD g) p⟩) fun v s1 ⟨x, H1, I1, r1, ia1, d, S1, x1, A1, ra, p1⟩ => PyProof.Rows.args_nil ?_) na) na rfl
  cases ra with
  | @ref aa n hn =>
    cases r1
    try simp only at p1
    cases hl : lsOf (.ref n) S1 with
    | none => rw [hl] at p1; exact p1.elim
    | some xs =>
      rw [hl] at p1
      try simp only at p1
      cases hk : xs.mapM keyD with
      | none => rw [hk] at p1; exact p1.elim
      | some ks =>
        rw [hk] at p1
        try simp only at p1
        by_cases hz : ks.length < 4000
        · rw [if_pos hz] at p1
          obtain ⟨vs, its, h1, h2, pl⟩ := is_list c.K I1 A1 hn hl
          obtain ⟨l1, l2⟩ := keys_at (P := X.prog) (w := X.w) hk h1 h2
          refine call_set_listK (knd := mixKind X.prog X.w) (ks := ks) (I1.ok.hd c.calm) pl (by rw [List.size_toArray]; exact l1) (fun j v hv => l2 j v (by simpa using hv)) (by rw [List.size_toArray, ← l1]; unfold scanBound; omega) fun h' tk hS hk' => ?_
          refine PyProof.Rows.args_nil ?_
          obtain ⟨o, es, ep, t, ho, hex, hd, _, _, _, hf, hn'⟩ := hS
          have I2 : Inv X pins σ H1 { s1 with heap := h', toks := tk } := I1.kept fun b o e => hk' b o (Heap.lt_size e) e
          have h3 := ddK_len ks
          refine call_len_set ho hex hd hf (by rw [hn']; omega) ⟨.int (ddK ks).length, H1, I2.tok _, ⟨_, by rw [hn']⟩, p1 ia1 H1 _ .refl A1 (.int _)⟩
        · rw [if_neg hz] at p1; exact p1.elim
  | _ => exact p1.elim⟩⟩

/-! ### a[lo:hi:-1] of a list -/
def pickL {α : Type} (xs : List α) (lo hi st : Option Int) : List α := (sliceRange (sliceBounds lo hi st xs.length).1 (sliceBounds lo hi st xs.length).2.1 (sliceBounds lo hi st xs.length).2.2).filterMap (xs[·]?)
theorem Dens.pickR {K : PySem.W.Frag} {ia : List Addr} {H : Hp} {vs : List V} {ds : List D} (r : Dens K ia H vs ds) : ∀ js : List Nat, Dens K ia H (js.filterMap (vs[·]?)) (js.filterMap (ds[·]?))
  | [] => .nil
  | j :: js => by
    have ih := Dens.pickR r js
    cases hd : ds[j]? with
    | none =>
      have hv : vs[j]? = none := List.getElem?_eq_none (by rw [r.length]; exact List.getElem?_eq_none_iff.mp hd)
      rw [List.filterMap_cons_none hd, List.filterMap_cons_none hv]
      exact ih
    | some d =>
      obtain ⟨v, hv, rv⟩ := r.get hd
      rw [List.filterMap_cons_some hd, List.filterMap_cons_some hv]
      exact .cons rv ih
theorem Vals.pickR {vs : List V} {us : List Value} (r : Vals vs us) : ∀ js : List Nat, Vals (js.filterMap (vs[·]?)) (js.filterMap (us[·]?))
  | [] => .nil
  | j :: js => by
    have ih := Vals.pickR r js
    cases hd : vs[j]? with
    | none =>
      have hv : us[j]? = none := List.getElem?_eq_none (by rw [← r.length]; exact List.getElem?_eq_none_iff.mp hd)
      rw [List.filterMap_cons_none hd, List.filterMap_cons_none hv]
      exact ih
    | some d =>
      obtain ⟨v, hv, rv⟩ := r.get hd
      rw [List.filterMap_cons_some hd, List.filterMap_cons_some hv]
      exact .cons rv ih
def oRev (a : D) (lo hi : Option Int) (S : Sto) : R D := match a with
  | .ref n => match (S[n]?).bind lstO with
    | some ds => if ds.length < LINE ∧ (pickL ds lo hi (some (-1))).length ≤ LINE then .ok (.ref S.length) (S ++ [.lst (pickL ds lo hi (some (-1)))]) else .bad
    | none => .bad
  | _ => .bad
def eRev (f : EF) (lo hi : OF) : EF := fun E S => (f E S).bind fun a S1 => (lo E S1).bind fun l S2 => (hi E S2).bind fun h S3 => oRev a l h S3
theorem de_rev {lo hi : Option Expr} {l hf : OF} {kk : Nat} {q1 q2 : Pos} (ha : DE g lv X W a f) (hl : DO g lv X W lo l) (hh : DO g lv X W hi hf) :
    DE g lv X W (.Subscript a (.Slice lo hi (some (.UnaryOp .USub (.Constant (.int 1) kk q1) q2)) p2) pos) (eRev f l hf) := ⟨fun c => ⟨fun pins s σ H Q I q => by
  obtain ⟨ia, E, S, A, e0, p⟩ := q
  refine Subscript_ (thn ((ha.run c).run pins s σ H _ I ⟨ia, E, S, A, e0, Post.bind (rel := relD g) p⟩) fun v s1 ⟨x, H1, I1, r1, ia1, d, S1, x1, A1, ra, p1⟩ => ?_)
  have hst : PO X (some (.UnaryOp .USub (.Constant (.int 1) kk q1) q2)) (tPart (tUn (rU fun i => .int (-i)) (tC (.int 1)))) := po_some (pe_un un_neg pe_int)
  refine wpAny_Slice (thn ((hl.run c).run pins s1 σ H1 _ I1 ⟨ia1, E, S1, A1, e0.ext x1, Post.bind (rel := fun _ _ v d => v = d) p1⟩) fun vl s2 ⟨lo', H2, I2, pl, ia2, l2, S2, x2, A2, e2, p2⟩ => ?_)
  refine thn ((hh.run c).run pins s2 σ H2 _ I2 ⟨ia2, E, S2, A2, (e0.ext x1).ext x2, Post.bind (rel := fun _ _ v d => v = d) p2⟩) fun vu s3 ⟨hi', H3, I3, pu, ia3, h3, S3, x3, A3, e3, p3⟩ => ?_
  subst e2 e3
  refine thn (hst.run pins s3 σ H3 (fun o H4 => o = some (-1) ∧ H4 = H3) I3 ⟨1, rfl, -1, rfl, rfl, rfl⟩) fun vs s4 ⟨o, H4, I4, ps, eo, e4⟩ => ?_
  subst eo e4
  have I5 : Inv X pins σ H4 { s4 with heap := s4.heap.push { cls := .type "slice", data := .fields #[vl, vu, vs] } } := I4.kept (t' := s4.toks) fun b ob q => Heap.get?_push_of_some _ q
  cases ra with
  | @ref aa n hn =>
    cases r1
    try simp only [oRev] at p3
    cases hL : (S3[n]?).bind lstO with
    | none => rw [hL] at p3; exact p3.elim
    | some ds =>
      rw [hL] at p3
      try simp only at p3
      by_cases hz : ds.length < LINE ∧ (pickL ds lo' hi' (some (-1))).length ≤ LINE
      · rw [if_pos hz] at p3
        have hn3 := (x2.trans x3).at hn
        have hx : ∃ ws, SqL g.K H4 aa ws ∧ Dens g.K ia3 H4 ws ds := by
          cases hS : S3[n]? with
          | none => rw [hS] at hL; cases hL
          | some o =>
            rw [hS] at hL
            cases o with
            | lst ys => cases hL; exact SqL_of rfl (A3.obj' hn3 hS) (.inl rfl)
            | frz ys => cases hL; exact SqL_of rfl (A3.obj' hn3 hS) (.inr rfl)
            | _ => cases hL
        obtain ⟨ws, hw, hd⟩ := hx
        obtain ⟨its, r, ht, hz2⟩ := I5.list (X := X) (by rw [c.K]; exact hw)
        have hlen := r.length
        have hlen2 := hd.length
        refine tail_any (ops := [.ref aa, .ref s4.heap.objs.size]) ht.isList.typeIs slot_list_getitem.lookup ?_ (by with_unfolding_all rfl)
        refine wpAny_getItem_list_slice ht.isList (Heap.IsSliceOf.new ..) pl pu ps (by decide) ?_ (by rw [List.size_toArray]; omega)
        have e : slicePick its.toArray lo' hi' (some (-1)) = (pickL its lo' hi' (some (-1))).toArray := by
          unfold slicePick pickL
          simp
        rw [e]
        have el : its.length = ds.length := by omega
        have ew : ws.length = ds.length := hlen2
        have rv : Vals (pickL ws lo' hi' (some (-1))) (pickL its lo' hi' (some (-1))) := by
          unfold pickL
          rw [el, ew]
          exact Vals.pickR r _
        have rd : Dens g.K ia3 H4 (pickL ws lo' hi' (some (-1))) (pickL ds lo' hi' (some (-1))) := by
          unfold pickL
          rw [ew]
          exact Dens.pickR hd _
        have hpl := rd.length
        have hz4 : (pickL ds lo' hi' (some (-1))).length ≤ 16777216 := hz.2
        have hsl := sizeLine_eq
        have hz3 : ds.length < 16777216 := hz.1
        refine ⟨.ref _, _, I5.lnew (t' := s4.toks) rv (by omega), rfl, ?_⟩
        exact Post.new A3 (ORel.lst rd) p3 _ (I5.hok.fresh (Nat.le_refl _))
      · rw [if_neg hz] at p3; exact p3.elim
  | _ => exact p3.elim⟩⟩

/-! ### what is never reached -/
theorem ds_never {st : Stmt} : DS g lv X W st (fun _ _ => .bad) := ⟨fun c => ⟨fun pins s σ H D I q => by
  obtain ⟨ia, E, S, A, e0, p⟩ := q
  exact p.elim⟩⟩
theorem dss_never {st : List Stmt} : DSs g lv X W st (fun _ _ => .bad) := ⟨fun c => ⟨fun pins s σ H D I q => by
  obtain ⟨ia, E, S, A, e0, p⟩ := q
  exact p.elim⟩⟩
theorem de_never : DE g lv X W e (fun _ _ => .bad) := ⟨fun c => ⟨fun pins s σ H Q I q => by
  obtain ⟨ia, E, S, A, e0, p⟩ := q
  exact p.elim⟩⟩
end

/-! ### a def -/
section
variable {P : Program} {w : World} {g : G} {mg : Str → Option Value} {base : Heap}
theorem fn_mkD {x qual : Str} {pa : Arguments} {body : List Stmt} {sc : Scope} {f : Addr} {fd : FuncData} {N ps : List Str} {k : Nat} {s : SF} (F : FunD g.K x qual pa body sc [] [] f fd) (Sc : FnScope N ps sc) (hb : Binds g.K fd ps [])
    (hbody : ∀ (cdv : Value) (A : Around) (outer : List PySem.Env) (s0 : Shared) (H : Hp) (E : XK), DSs g k (cxD P w g mg base N qual sc f cdv A outer s0 H E) (wxD E) body s) : FnD P w mg base g (k + 1) f ps.length (mDef N.length ps.length s) := by
  refine ⟨⟨fd, ps, rfl, ?_, hb⟩, F.kp⟩
  refine F.ok Sc (fun vs H Q E h => h.1) (fun cdv A outer s0 H vs Q E hr h => ⟨tS g (wxD E) s, (hbody cdv A outer s0 H E).run ⟨rfl, takes_of rfl rfl rfl rfl, rfl, hr⟩, ?_⟩)
  obtain ⟨hl, ia, ds, S, A0, rd, p⟩ := h
  refine ⟨ia, env0 N.length ds, S, A0, ?_, ?_⟩
  · show EDen g.K ia H (vs.map some ++ List.replicate (N.length - vs.length) none) (ds.map some ++ List.replicate (N.length - ds.length) none)
    rw [rd.length]
    exact EDen.start rd _
  · unfold mDef at p
    rw [if_pos (by rw [← rd.length]; exact hl)] at p
    cases hs : s (env0 N.length ds) S with
    | nx E1 S1 => rw [hs] at p; exact fun ia' H' σ' x A1 _ => p ia' H' .non x A1 .non
    | rt d S1 => rw [hs] at p; exact p
    | er xx E1 S1 => rw [hs] at p; exact fun ia' H' σ' c d x A1 _ rx => p ia' H' c d x A1 rx
    | bk E1 S1 => rw [hs] at p; exact p.elim
    | ct E1 S1 => rw [hs] at p; exact p.elim
    | bad => rw [hs] at p; exact p.elim
/-- a def of which nothing is said -/
theorem fn_bad {x qual : Str} {pa : Arguments} {body : List Stmt} {sc : Scope} {f : Addr} {fd : FuncData} {ps : List Str} {k : Nat} (F : FunD g.K x qual pa body sc [] [] f fd) (hb : Binds g.K fd ps []) : FnD P w mg base g k f ps.length (fun _ _ => .bad) :=
  ⟨⟨fd, ps, rfl, ⟨fun vs H Q E h => h.1, fun A outer s H args us vs Q E hr he hbt hv h => by
    obtain ⟨hl, ia, ds, S, A0, rd, p⟩ := h
    exact p.elim⟩, hb⟩, F.kp⟩
theorem FnD.mono {k j n : Nat} {f : Addr} {m : List D → Sto → R D} (h : FnD P w mg base g j f n m) (hk : j ≤ k) : FnD P w mg base g k f n m := by
  obtain ⟨⟨fd, ps, h1, h2, h3⟩, h4⟩ := h
  exact ⟨⟨fd, ps, h1, h2.mono hk, h3⟩, h4⟩
end
end DL
end OfDL12

section OfDL13
set_option Elab.async false
set_option linter.all false
set_option maxRecDepth 100000
/-! DL13: walking any list, tuple or text; constants of the module; and, not by truth -/
namespace DL
open PySem PySem.Spec PyProof.Rows L2
open PySem.SeqAt

section
variable {g : G} {lv : Nat} {X : Cx} {W : WX} {pos ppos apos cpos p2 p3 tpos : Pos} {a b c e o i tg : Expr} {f k h : EF} {u : AF} {es : List Expr}
def iAnyT (K : PySem.W.Frag) (tl : TE) : TI := fun σ H R => tl σ H fun x H1 => (∃ a, x = .ref a ∧ (∃ xs, SqL K H1 a xs) ∧ R (Itl K a) H1) ∨ (∃ a, x = .ref a ∧ (∃ xs, SqT K H1 a xs) ∧ R (Itt K a) H1) ∨ ∃ z, x = .str z ∧ R (Its z) H1
theorem pi_any {l : Expr} {tl : TE} (hl : PE X l tl) : PI X tg l (iAnyT X.K tl) := by
  refine ⟨fun pins s σ H R I h => ?_⟩
  refine thn (hl.run pins s σ H _ I h) fun v s1 ⟨x, H1, I1, r1, q1⟩ => ?_
  rcases q1 with ⟨a, e, ⟨xs, hq⟩, q⟩ | ⟨a, e, ⟨xs, hq⟩, q⟩ | ⟨z, e, q⟩
  · subst e
    cases r1
    obtain ⟨its, rv, p, hz⟩ := I1.list hq
    refine wpAny_pyIter_list p.isList ?_
    refine ⟨s1.heap.objs.size, [s1.heap.objs.size], _, _, H1, rfl, I1.kept (t' := s1.toks) fun b o e => Heap.get?_push_of_some _ e, turn_list a _, ⟨_, Heap.get?_push_size _ rfl, rfl, rfl⟩, fun b hb => ?_, q⟩
    have e : b = s1.heap.objs.size := by simpa using hb
    subst e
    exact I1.fpOk (Nat.le_refl _) (I1.hok.fresh (Nat.le_refl _))
  · subst e
    cases r1
    obtain ⟨its, rv, p, hz⟩ := I1.tuple hq
    refine wpAny_pyIter_tuple (show s1.heap.IsTuple a its.toArray from p) ?_
    refine ⟨s1.heap.objs.size, [s1.heap.objs.size], _, _, H1, rfl, I1.kept (t' := s1.toks) fun b o e => Heap.get?_push_of_some _ e, turn_tuple a _, ⟨_, Heap.get?_push_size _ rfl, rfl, rfl⟩, fun b hb => ?_, q⟩
    have e : b = s1.heap.objs.size := by simpa using hb
    subst e
    exact I1.fpOk (Nat.le_refl _) (I1.hok.fresh (Nat.le_refl _))
  · subst e
    obtain ⟨t, rfl⟩ := r1
    cases ha : z.cps.all (· < 128)
    · exact wpAny_pyIter_wide ha (pi_one (tk := s1.toks) I1 _ (turn_str _ z t "str_iterator" (.inr rfl)) ⟨_, Heap.get?_push_size _ rfl, rfl, rfl⟩ q)
    · exact wpAny_pyIter_ascii ha (pi_one (tk := s1.toks) I1 _ (turn_str _ z t "str_ascii_iterator" (.inl rfl)) ⟨_, Heap.get?_push_size _ rfl, rfl, rfl⟩ q)
def iAny (f : EF) : IF := fun E S => (f E S).bind fun d S1 => match d with
  | .ref r => match S1[r]? with
    | some (.lst xs) => .ok (srcList xs r) S1
    | some (.frz xs) => .ok (srcList xs r) S1
    | _ => .bad
  | .tup ds => .ok (srcVals ds) S1
  | .str s => .ok (srcVals (s.map fun c => .str [c])) S1
  | _ => .bad
theorem di_any (hd : DE g lv X W e f) : DI g lv X W tg e (iAny f) := ⟨fun c => (pi_any (hd.run c)).wk fun σ H R' q => by
  obtain ⟨ia, E, S, A, e0, p⟩ := q
  refine ⟨ia, E, S, A, e0, (Post.bind (rel := relD g) p).mono (fun v H1 h1 => ?_) fun _ _ _ h => h⟩
  obtain ⟨ia1, d, S1, x1, A1, ra, p1⟩ := h1
  cases ra with
  | @ref a r hr =>
    simp only at p1
    cases hs : S1[r]? with
    | none => rw [hs] at p1; exact p1.elim
    | some o =>
      rw [hs] at p1
      have ro := A1.obj' hr hs
      cases o with
      | lst ys =>
        obtain ⟨vs, h1, h2⟩ := SqL_of c.K.symm ro (.inl rfl)
        exact .inl ⟨a, rfl, ⟨vs, h1⟩, p1 ia1 H1 _ .refl A1 (itok_list c.K hr ys)⟩
      | frz ys =>
        obtain ⟨vs, h1, h2⟩ := SqL_of c.K.symm ro (.inr rfl)
        exact .inl ⟨a, rfl, ⟨vs, h1⟩, p1 ia1 H1 _ .refl A1 (itok_list c.K hr ys)⟩
      | _ => exact p1.elim
  | @tup a vs ds hs rs => exact .inr (.inl ⟨a, rfl, ⟨vs, by rw [c.K]; exact hs⟩, p1 ia1 H1 _ .refl A1 (itok_tup c.K (by rw [c.K]; exact hs) (by rw [c.K]; exact rs))⟩)
  | str s => exact .inr (.inr ⟨T s, rfl, p1 ia1 H1 _ .refl A1 (itok_str s)⟩)
  | _ => exact p1.elim⟩
theorem de_globI {x : Str} {j : Int} (hm : ∃ t, X.mg x = some (.int j t)) (hg : Gl X x := by rfl) (hd : (x == ("__debug__" : Str)) = false := by decide) : DE g lv X W (.Name x pos) (eC (.int j)) := by
  obtain ⟨t, hm⟩ := hm
  exact de_glob hm (v := .int j) ⟨t, rfl⟩ (fun _ _ => .int j) hg hd
theorem de_globS {x z : Str} (l : List Nat) (hz : z = T l) (hm : ∃ t, X.mg x = some (.str z t)) (hg : Gl X x := by rfl) (hd : (x == ("__debug__" : Str)) = false := by decide) : DE g lv X W (.Name x pos) (eC (.str l)) := by
  obtain ⟨t, hm⟩ := hm
  subst hz
  exact de_glob hm (v := .str (T l)) ⟨t, rfl⟩ (fun _ _ => .str l) hg hd
def eAndV (f k : EF) : EF := fun E S => (f E S).bind fun d S1 => match truD d S1 with
  | some true => k E S1
  | some false => .ok d S1
  | none => .bad
theorem de_andV {rest : List Expr} (ha : DE g lv X W a f) (hb : DE g lv X W (.BoolOp .And (b :: rest) pos) k) : DE g lv X W (.BoolOp .And (a :: b :: rest) pos) (eAndV f k) := ⟨fun c => (pe_andT (ha.run c) (hb.run c)).wk fun σ H Q q => by
  obtain ⟨ia, E, S, A, e0, p⟩ := q
  refine ⟨ia, E, S, A, e0, (Post.bind (rel := relD g) p).mono (fun v H1 h1 => ?_) fun _ _ _ h => h⟩
  obtain ⟨ia1, d, S1, x1, A1, ra, p1⟩ := h1
  try simp only at p1
  cases ht : truD d S1 with
  | none => rw [ht] at p1; exact p1.elim
  | some t =>
    rw [ht] at p1
    refine ⟨t, by rw [c.K]; exact tru_at A1 ra ht, ?_⟩
    cases t with
    | false => rw [if_neg (by simp)]; exact p1 ia1 H1 _ .refl A1 ra
    | true => rw [if_pos rfl]; exact ⟨ia1, E, S1, A1, e0.ext x1, p1⟩⟩
def eNotV (f : EF) : EF := fun E S => (f E S).bind fun d S1 => match truD d S1 with
  | some t => .ok (.bl (!t)) S1
  | none => .bad
theorem de_notV (ha : DE g lv X W a f) : DE g lv X W (.UnaryOp .Not a pos) (eNotV f) := ⟨fun c => (pe_notT (ha.run c)).wk fun σ H Q q => by
  obtain ⟨ia, E, S, A, e0, p⟩ := q
  refine ⟨ia, E, S, A, e0, (Post.bind (rel := relD g) p).mono (fun v H1 h1 => ?_) fun _ _ _ h => h⟩
  obtain ⟨ia1, d, S1, x1, A1, ra, p1⟩ := h1
  try simp only at p1
  cases ht : truD d S1 with
  | none => rw [ht] at p1; exact p1.elim
  | some t =>
    rw [ht] at p1
    exact ⟨t, by rw [c.K]; exact tru_at A1 ra ht, p1 ia1 H1 _ .refl A1 (.bl _)⟩⟩
end
end DL
end OfDL13

section OfDL14
set_option Elab.async false
set_option linter.all false
set_option maxRecDepth 100000
/-! DL14: methods whose name is a field's name, too -/
namespace DL
open PySem PySem.Spec PyProof.Rows L2
open PySem.SeqAt
section
variable {g : G} {lv : Nat} {X : Cx} {W : WX} {pos ppos apos : Pos} {a b e o : Expr} {es : List Expr} {f k : EF} {u : AF} {x m : Str} {n j : Nat}
def eMethX (t : MTab) (bad : List Nat) (f : EF) (u : AF) : EF := fun E S => (f E S).bind fun d S1 => match d with
  | .ref r => match S1[r]? with
    | some (.ins c fs) => if (fs.all fun p => !bad.contains p.1) = true then match t.lookup c with
      | some mm => (u E S1).bind fun ds S2 => mm (.ref r :: ds) S2
      | none => .bad
      else .bad
    | _ => .bad
  | _ => .bad
theorem frel_namesX {ia : List Addr} {H : Hp} {bad : List Nat} : ∀ {fs : List (Nat × D)} {vs : List (Str × V)}, Paired (FRel g ia H) fs vs → ∀ nm, (∀ i, g.fn[i]? = some nm → bad.contains i = true) → (fs.all fun p => !bad.contains p.1) = true → vs.lookup nm = none
  | _, _, .nil, _, _, _ => rfl
  | p :: fs, q :: vs, .cons r t, nm, h, hb => by
    rw [List.all_cons, Bool.and_eq_true] at hb
    have hne : ¬ nm = q.1 := fun e => by
      have := h p.1 (by rw [e]; exact r.1)
      rw [this] at hb
      simp at hb
    obtain ⟨q1, q2⟩ := q
    have hb2 : (nm == q1) = false := by simpa using hne
    simp only [List.lookup_cons, hb2]
    exact frel_namesX t nm h hb.2
theorem de_methX {t : MTab} {bad : List Nat} {pl : Sem Bool} (ho : DE g lv X W o f) (ht0 : ∀ c mm, t.lookup c = some mm → ∃ j, j ≤ lv ∧ MethD X.prog X.w X.mg X.base g j c m n mm) (hnf : ∀ i, g.fn[i]? = some m → bad.contains i = true) (ha : DAn g lv X W (e :: es) n u)
    (hst : starEach (e :: es) X.env = (false, eval e X.env) :: starEach es X.env := by rfl) (hpl : (backTo pos (starEach es X.env)).any (·.1) = false := by rfl)
    (ht : eval (.Call (.Attribute o m apos) (e :: es) [] pos) X.env = (do
      let ov ← eval o X.env
      standAt apos.atName
      let (f, first) ← holding [ov] (getMethod ov m pl)
      callWith pos f first (backTo pos (starEach (e :: es) X.env)) (backToKw pos (keywordEach [] X.env))) := by rfl) :
    DE g lv X W (.Call (.Attribute o m apos) (e :: es) [] pos) (eMethX t bad f u) := ⟨fun c => ⟨fun pins s σ H Q I h => by
  obtain ⟨ia, E, S, A, e0, p⟩ := h
  refine PySem.W.methodCall_KW (pl := pl) (thn ((ho.run c).run pins s σ H _ I ⟨ia, E, S, A, e0, Post.bind (rel := relD g) p⟩) fun uu s1 ⟨xx, H1, I1, rx, ia1, d, S1, x1, A1, rd, p1⟩ => ?_) ht
  cases rd with
  | @ref aa r hr =>
    cases rx
    simp only at p1
    cases hs : S1[r]? with
    | none => rw [hs] at p1; exact p1.elim
    | some ob =>
      rw [hs] at p1
      cases ob with
      | ins cc fs =>
        simp only at p1
        by_cases hbad : (fs.all fun p => !bad.contains p.1) = true
        · rw [if_pos hbad] at p1
          cases hl : t.lookup cc with
          | none => rw [hl] at p1; exact p1.elim
          | some mm =>
            rw [hl] at p1
            simp only at p1
            obtain ⟨C, dx, vs, hC, hH, rf⟩ := A1.obj' hr hs
            obtain ⟨j, hj, M⟩ := ht0 cc mm hl
            obtain ⟨cl, fa, me, ⟨fd, ps, hps, F1, hb⟩, kp⟩ := M.ex C hC
            refine getmeth_ok I1 hH (by rw [c.K]; exact cl) (by rw [c.K]; exact me) (frel_namesX rf m hnf hbad) ?_
            refine PySem.W.callWith_K (first := [.ref aa]) (h₀ := X.base) I.ok.mod.kin (by rw [c.K]; exact me.kp) (thn ((ha.da.run c).run pos pins s1 σ H1 _ I1 ⟨ia1, E, S1, A1, e0.ext x1, Post.len (ha.len E S1) (Post.bind (rel := relL g) p1)⟩) fun us s2 ⟨ws, H2, I2, rr, hlen, ia2, ds, S2, x2, A2, rds, p2⟩ => ⟨I2.kIn, ?_⟩) hst hpl
            refine run_fnSD (us := .ref aa :: us) (vs := .ref aa :: ws) (dvs := []) (ds := []) (E := fun σ c d H' => W c d σ H') (FnOk.K c.K F1) (c.room.mono hj) (by rw [c.K]; exact hb) .nil (passesAt_of c σ) I2 (.cons rfl rr) ?_
            rw [List.append_nil]
            exact ⟨by simp [hlen], ia2, .ref r :: ds, S2, A2, .cons (.ref (x2.at hr)) rds, p2⟩
        · rw [if_neg hbad] at p1; exact p1.elim
      | _ => exact p1.elim
  | _ => exact p1.elim⟩⟩
theorem de_methX0 {t : MTab} {bad : List Nat} {pl : Sem Bool} (ho : DE g lv X W o f) (ht0 : ∀ c mm, t.lookup c = some mm → ∃ j, j ≤ lv ∧ MethD X.prog X.w X.mg X.base g j c m 0 mm) (hnf : ∀ i, g.fn[i]? = some m → bad.contains i = true)
    (ht : eval (.Call (.Attribute o m apos) [] [] pos) X.env = (do
      let ov ← eval o X.env
      standAt apos.atName
      let (f, first) ← holding [ov] (getMethod ov m pl)
      callWith pos f first (backTo pos (starEach [] X.env)) (backToKw pos (keywordEach [] X.env))) := by rfl) :
    DE g lv X W (.Call (.Attribute o m apos) [] [] pos) (eMethX t bad f aNil) := ⟨fun c => ⟨fun pins s σ H Q I h => by
  obtain ⟨ia, E, S, A, e0, p⟩ := h
  refine PySem.W.methodCall_KW (pl := pl) (thn ((ho.run c).run pins s σ H _ I ⟨ia, E, S, A, e0, Post.bind (rel := relD g) p⟩) fun uu s1 ⟨xx, H1, I1, rx, ia1, d, S1, x1, A1, rd, p1⟩ => ?_) ht
  cases rd with
  | @ref aa r hr =>
    cases rx
    simp only at p1
    cases hs : S1[r]? with
    | none => rw [hs] at p1; exact p1.elim
    | some ob =>
      rw [hs] at p1
      cases ob with
      | ins cc fs =>
        simp only at p1
        by_cases hbad : (fs.all fun p => !bad.contains p.1) = true
        · rw [if_pos hbad] at p1
          cases hl : t.lookup cc with
          | none => rw [hl] at p1; exact p1.elim
          | some mm =>
            rw [hl] at p1
            simp only at p1
            obtain ⟨C, dx, vs, hC, hH, rf⟩ := A1.obj' hr hs
            obtain ⟨j, hj, M⟩ := ht0 cc mm hl
            obtain ⟨cl, fa, me, ⟨fd, ps, hps, F1, hb⟩, kp⟩ := M.ex C hC
            refine getmeth_ok I1 hH (by rw [c.K]; exact cl) (by rw [c.K]; exact me) (frel_namesX rf m hnf hbad) ?_
            refine PySem.W.callWith_K0 (first := [.ref aa]) I1.kIn (by rw [c.K]; exact me.kp) ?_
            refine run_fnSD (us := [.ref aa]) (vs := [.ref aa]) (dvs := []) (ds := []) (E := fun σ c d H' => W c d σ H') (FnOk.K c.K F1) (c.room.mono hj) (by rw [c.K]; exact hb) .nil (passesAt_of c σ) I1 (.cons rfl .nil) ?_
            exact ⟨rfl, ia1, [.ref r], S1, A1, .cons (.ref hr) .nil, p1⟩
        · rw [if_neg hbad] at p1; exact p1.elim
      | _ => exact p1.elim
  | _ => exact p1.elim⟩⟩
end
/-! ### name = {k: v for ..} -/
section
variable {X : Cx}
theorem ps_setDc {i : Nat} {y : Str} {py : Pos} {kx vx tg iter : Expr} {ifs : List Expr} {scope : Scope} {own : List (Str × Nat)} {pos spos : Pos} {wi : TI} {g : TG} {tt : TT} {tk tv : TE} (hc : X.calm = true) (hN : X.N.Nodup) (hy : X.N[i]? = some y) (hyl : X.env.scope.names.lookup y = some .local)
    (hsw : swapsWith (.DictComp kx vx [⟨tg, iter, ifs, 0⟩] scope pos) (some (.Name y py)) spos.line X.env = pure true) (hi : PI X tg iter wi) (ok : BlkOk X.N X.env.scope scope own)
    (hg : ∀ (s : Shared) (H : Hp) (C : Addr) (cl : List (Str × Addr)) (fp : List Addr), PG (X.blk s H scope (compEnvC scope cl C X.env) fp) tg g) (ht : ∀ (s : Shared) (H : Hp) (C : Addr) (cl : List (Str × Addr)) (fp : List Addr), PTs (X.blk s H scope (compEnvC scope cl C X.env) fp) ifs tt)
    (hk : ∀ (s : Shared) (H : Hp) (C : Addr) (cl : List (Str × Addr)) (fp : List Addr), PE (X.blk s H scope (compEnvC scope cl C X.env) fp) kx tk)
    (he : ∀ (s : Shared) (H : Hp) (C : Addr) (cl : List (Str × Addr)) (fp : List Addr), PE (X.blk s H scope (compEnvC scope cl C X.env) fp) vx tv) (hs : ∀ x, foldedSetIterable iter X.env x = pure x := by intro _; rfl) :
    PS X (.Assign [.Name y py] (.DictComp kx vx [⟨tg, iter, ifs, 0⟩] scope pos) spos) (tAsg (tDc wi g tt tk tv (own.map (·.2))) (gName i)) := by
  refine ⟨fun pins s σ H D I h => ?_⟩
  rw [exec_Assign_Name_used _ _ _ _ hsw]
  refine wpAny_bind (wpAny_standAt (wpAny_bind ?_))
  show wpAny _ X.A (do let _ ← comprehension (.DictComp kx vx [⟨tg, iter, ifs, 0⟩] scope pos) scope X.env (firstIterPos [⟨tg, iter, ifs, 0⟩] pos) newDict false (eval iter X.env) (some (assign (.Name y py) X.env))) _ _ s
  have h : tDc wi g tt tk tv (own.map (·.2)) σ H (fun x H1 => gName i x σ H1 D.nx) := h
  refine wpAny_bind (thn (dc_core (Qf := fun _ s' => SP X pins D .next s') hc hN I hi ok hg ht hk he hs h fun L C s' m H' I' q hn f => ?_) fun _ s' hq => wpAny_pure (wpAny_pure hq))
  show wpAny _ _ (assign (.Name y py) X.env (.ref L)) _ _ _
  refine wpAny_assign_Name (store_ok2 (v := V.ref L) I' hN hy (.inl hyl) rfl (fun s2 I2 ⟨a, sb, ha⟩ => ?_) (.inr hyl))
  obtain ⟨f0, f1, f2, f3, f4, f5⟩ := f
  have haC : C ≠ a := by
    rcases ha with z | z
    · rw [z]; exact f1
    · exact fun e => f4 y a z e.symm
  refine ⟨m, hn.sameBut sb haC, fun h3 sb3 => ?_⟩
  exact ⟨_, H', I2.turned (t' := s2.toks) (fun b o hb e => (sb3.2 b hb).trans e) f0 f1 f3 f4 f5, q⟩
theorem sw_trueD {kx vx : Expr} {gs : List Comprehension} {scope : Scope} {pos py : Pos} {y : Str} {l : Nat} {env : PySem.Env} (hk : env.scope.kind = .function) (hy : env.scope.names.lookup y = some .local) (hl : (py.line == pos.line) = true)
    (ha : (scope.names.any fun (n, k) => n == y && (k == .local || k == .cell)) = false) : swapsWith (.DictComp kx vx gs scope pos) (some (.Name y py)) l env = pure true := by
  have ky : env.kindOf y = some .local := hy
  have hb : env.blockKind = .function := by unfold Env.blockKind; rw [hk]; rfl
  unfold swapsWith
  simp only [hb, ky, ha, Expr.pos, hl]
  rfl
variable {g : G} {lv : Nat} {W : WX} {elt tg iter kx vx : Expr} {ifs : List Expr} {scope : Scope} {own : List (Str × Nat)} {pos spos py : Pos} {wi : IF} {t : TgF} {p : TF} {oo : List Nat} {f k : EF}
theorem ds_setDc {i : Nat} {y : Str} (hN : X.N.Nodup) (hy : X.N[i]? = some y) (hyl : X.env.scope.names.lookup y = some .local) (hsw : swapsWith (.DictComp kx vx [⟨tg, iter, ifs, 0⟩] scope pos) (some (.Name y py)) spos.line X.env = pure true)
    (ok : blkC X.N X.env.scope scope own = true) (ho : ∀ j ∈ oo, j ∈ own.map (·.2)) (hi : DI g lv X W tg iter wi) (hg : Blk X scope fun Y => DG g lv Y Wf tg oo t) (ht : Blk X scope fun Y => DTs g lv Y Wf ifs p) (hk : Blk X scope fun Y => DE g lv Y Wf kx f) (he : Blk X scope fun Y => DE g lv Y Wf vx k)
    (hs : ∀ x, foldedSetIterable iter X.env x = pure x := by intro _; rfl) : DS g lv X W (.Assign [.Name y py] (.DictComp kx vx [⟨tg, iter, ifs, 0⟩] scope pos) spos) (sAsg (eDc (own.map (·.2)) wi t p f k) (gNm i)) :=
  ⟨fun c => (ps_setDc c.calm hN hy hyl hsw (hi.run c) (blkOk_by ok) (fun s H C cl fp => (hg s H C cl fp).run (c.blk _ _ _ _ _)) (fun s H C cl fp => (ht s H C cl fp).run (c.blk _ _ _ _ _)) (fun s H C cl fp => (hk s H C cl fp).run (c.blk _ _ _ _ _)) (fun s H C cl fp => (he s H C cl fp).run (c.blk _ _ _ _ _)) hs).wk fun Dn σ H q => by
    obtain ⟨ia, E, S, A, e0, q⟩ := q
    show tDc _ _ _ _ _ _ σ H _
    refine dc_post ho ⟨ia, E, S, A, e0, (PostS.ofR (rel := relD g) e0 q).mono (fun v H1 h1 => ?_) fun _ _ _ h => h⟩
    obtain ⟨ia1, y, S1, x1, A1, ra, e1, p1⟩ := h1
    exact p1 ia1 H1 _ .refl A1 (e1.set (.some ra) i)⟩
end
end DL
end OfDL14

section OfDL15
set_option Elab.async false
set_option linter.all false
set_option maxRecDepth 100000
/-! DL15: the head: a written part without lists; a law's end -/
namespace DL
open PySem PySem.Spec PyProof.Rows L2

def isListCls : Value → Bool
  | .type n => n == "list"
  | _ => false
def noL (K : PySem.W.Frag) : PySem.W.Frag := K.filter fun p => !isListCls p.2.cls
theorem lookup_mem {K : PySem.W.Frag} {a : Addr} {o : Obj} : K.lookup a = some o → (a, o) ∈ (K : List (Addr × Obj)) := by
  intro h
  induction K with
  | nil => cases h
  | cons p r ih =>
    obtain ⟨b, u⟩ := p
    have h : (match a == b with | true => some u | false => List.lookup a r) = some o := h
    cases hb : (a == b) with
    | true =>
      rw [hb] at h
      cases h
      rw [eq_of_beq hb]
      exact List.mem_cons_self
    | false =>
      rw [hb] at h
      exact List.mem_cons_of_mem _ (ih h)
theorem noL_in {g : Addr → Option Obj} {as : List Addr} {a : Addr} {o : Obj} (h : (noL (He.frG g as)).lookup a = some o) : g a = some o ∧ o.cls ≠ .type "list" := by
  obtain ⟨h1, h2⟩ := List.mem_filter.mp (lookup_mem h)
  obtain ⟨b, hb, e⟩ := List.mem_filterMap.mp h1
  obtain ⟨u, hu, e2⟩ := Option.map_eq_some_iff.mp e
  cases e2
  refine ⟨hu, fun e => ?_⟩
  simp only [e, isListCls] at h2
  revert h2
  decide
def obsDL (n : Nat) (fa : List He.Fa) (fn : List He.DefD) (g : Addr → Option Obj) : He.AlD := He.obsD fa fn (noL (He.frG g (He.asD g n)))
def hookL (n : Nat) (fa : List He.Fa) (fn : List He.DefD) : PySem.W.Hook where
  α := He.AlD
  obs := fun s => obsDL n fa fn s.heap.get?
  val := fun _ => He.valD fn
  says := fun _ h => ∃ K : PySem.W.Frag, K.In h ∧ (∀ a o, K.lookup a = some o → o.cls ≠ .type "list") ∧ He.SaysD fa fn K
  of := fun _ _ e => ⟨_, fun _ _ h => (noL_in h).1, fun _ _ h => (noL_in h).2, e⟩
  keeps := fun _ _ _ ⟨K, hK, hl, c⟩ k => ⟨K, PySem.W.Frag.In.keeps hK k, hl, c⟩
theorem obsDL_eq {n : Nat} {fa : List He.Fa} {fn : List He.DefD} {g : Addr → Option Obj} {s : Shared} (h : ∀ a, g a = s.heap.get? a) : obsDL n fa fn g = (hookL n fa fn).obs s := by
  have e : g = s.heap.get? := funext h
  rw [e] <;> rfl
theorem dens_ints {K : PySem.W.Frag} {ia : List Addr} {H : Hp} : ∀ ns : List Int, Dens K ia H (ns.map V.int) (ns.map D.int)
  | [] => .nil
  | n :: ns => .cons (.int n) (dens_ints ns)
/-- a def's promise, its function object given -/
theorem fn_okD {P : Program} {w : World} {g : G} {mg : Str → Option Value} {base : Heap} {x qual : Str} {pa : Arguments} {body : List Stmt} {sc : Scope} {f : Addr} {fd : FuncData} {N ps : List Str} {k : Nat} {s : SF} (F : FunD g.K x qual pa body sc [] [] f fd) (Sc : FnScope N ps sc)
    (hbody : ∀ (cdv : Value) (A : Around) (outer : List PySem.Env) (s0 : Shared) (H : Hp) (E : XK), DSs g k (cxD P w g mg base N qual sc f cdv A outer s0 H E) (wxD E) body s) : FnOk P w g.K mg base (L2.CX P w) (k + 1) f fd ps (spD g ps.length (mDef N.length ps.length s)) := by
  refine F.ok Sc (fun vs H Q E h => h.1) (fun cdv A outer s0 H vs Q E hr h => ⟨tS g (wxD E) s, (hbody cdv A outer s0 H E).run ⟨rfl, takes_of rfl rfl rfl rfl, rfl, hr⟩, ?_⟩)
  obtain ⟨hl, ia, ds, S, A0, rd, p⟩ := h
  refine ⟨ia, env0 N.length ds, S, A0, ?_, ?_⟩
  · show EDen g.K ia H (vs.map some ++ List.replicate (N.length - vs.length) none) (ds.map some ++ List.replicate (N.length - ds.length) none)
    rw [rd.length]
    exact EDen.start rd _
  · unfold mDef at p
    rw [if_pos (by rw [← rd.length]; exact hl)] at p
    cases hs : s (env0 N.length ds) S with
    | nx E1 S1 => rw [hs] at p; exact fun ia' H' σ' x A1 _ => p ia' H' .non x A1 .non
    | rt d S1 => rw [hs] at p; exact p
    | er xx E1 S1 => rw [hs] at p; exact fun ia' H' σ' c d x A1 _ rx => p ia' H' c d x A1 rx
    | bk E1 S1 => rw [hs] at p; exact p.elim
    | ct E1 S1 => rw [hs] at p; exact p.elim
    | bad => rw [hs] at p; exact p.elim
theorem walk_ofD {l : PySem.W.OpenLaw} {n k : Nat} {q : Program} {loose : List Str} {XP : (Str → Option Value) → Heap → Prop} {YP : World → Heap → Prop} {d : DefRec} {x : Str}
    (hn : l.most = some n) (hn2 : n ≤ sizeLine) (hdf : d.params.defaults = []) (hr : Room k callerA)
    (F : ∀ (w : World) (mg : Str → Option Value) (fa : Addr) (h : Heap), YP w h → h.Ns mainGlobals mg → mg d.name = some (.ref fa) →
      ∃ (K : PySem.W.Frag) (fd : FuncData) (sp : Sp), K.In h ∧ (∀ (s : Shared) (u : Value), BindsTo s fd ⟨[u], []⟩ [(x, u)]) ∧
        (∀ (H : Hp) (a : Addr) (ns : List Int), ns.length ≤ n → Only H → SqL K H a (ns.map V.int) → sp [.ref a] H (fun v _ => v = .bl true) fun _ _ _ => False) ∧
        ∀ base : Heap, K.In base → base.Ns mainGlobals mg → FnOk l.prog w K mg base (L2.CX l.prog w) k fa fd [x] sp) :
    PySem.W.WalkO q loose XP YP l.row.toRowW d [] (fun f vs => PySem.call f vs) := by
  refine Att.attach_call hn hdf fun w s₀ s₁ mg mb fa o pm cd doc a vs ns G Y ho hd hcd hmg hobj hints hlen hg => ?_
  obtain ⟨K, fd, sp, KX, hb, hsp, hF⟩ := F w mg fa _ Y G.T.g hmg
  exact law_call KX G.T.g G.T.b G.T.builtins G.T.nolimit hg hobj hints (Nat.le_trans hlen hn2) hr hF hb (fun H hO hS => hsp H a ns hlen hO hS) fun H e s' => fun ⟨_, _, _, _, _, _, _, _, _, _, _, _, z⟩ => z
/-- the law's promise from its mirror -/
theorem sp_law {g : G} {m : List D → Sto → R D} {n : Nat} (hm : ∀ ns : List Int, ns.length ≤ n → ∃ S, m [.ref 0] [.frz (ns.map D.int)] = .ok (.bl true) S) (hl : ∀ a o, g.K.lookup a = some o → o.cls ≠ .type "list")
    (H : Hp) (a : Addr) (ns : List Int) (hn : ns.length ≤ n) (hO : Only H) (hS : SqL g.K H a (ns.map V.int)) : spD g 1 m [.ref a] H (fun v _ => v = .bl true) fun _ _ _ => False := by
  have h1 : ∃ o, H a = some (.frz o (.lst (ns.map V.int))) := by
    rcases hS with (h | ⟨o, h⟩) | ⟨o, its, k, hk, hc, _⟩
    · rcases hO a with z | ⟨o, xs, z⟩
      · rw [z] at h; cases h
      · rw [z] at h; cases h
    · exact ⟨o, h⟩
    · exact absurd hc (hl a o hk)
  obtain ⟨o, h1⟩ := h1
  obtain ⟨S, hS⟩ := hm ns hn
  refine ⟨rfl, [a], [.ref 0], [.frz (ns.map D.int)], ⟨rfl, by simp, fun i b ob hb ho => ?_⟩, .cons (.ref rfl) .nil, ?_⟩
  · cases i with
    | zero =>
      cases hb
      cases ho
      exact ⟨ns.map V.int, o, h1, dens_ints ns⟩
    | succ i => cases hb
  · rw [hS]
    intro ia' H' v x A r
    cases r
    rfl
end DL
end OfDL15

section OfDP1
set_option Elab.async false
set_option linter.all false
set_option maxRecDepth 100000
/-! DP1: reasoning about mirrors: what a result satisfies -/
namespace DL
open PySem PySem.Spec PyProof.Rows L2

/-- a result with a value, of which Q stands -/
inductive Ok {α : Type} : R α → (α → Sto → Prop) → Prop where
  | mk {a : α} {S : Sto} {Q : α → Sto → Prop} (h : Q a S) : Ok (.ok a S) Q
structure PQ where
  nx : Env → Sto → Prop
  rt : D → Sto → Prop
  bk : Env → Sto → Prop
  ct : Env → Sto → Prop
inductive SOk : RS → PQ → Prop where
  | nx {E : Env} {S : Sto} {Q : PQ} (h : Q.nx E S) : SOk (.nx E S) Q
  | rt {d : D} {S : Sto} {Q : PQ} (h : Q.rt d S) : SOk (.rt d S) Q
  | bk {E : Env} {S : Sto} {Q : PQ} (h : Q.bk E S) : SOk (.bk E S) Q
  | ct {E : Env} {S : Sto} {Q : PQ} (h : Q.ct E S) : SOk (.ct E S) Q
section
variable {α β : Type} {Q : α → Sto → Prop} {Q2 : β → Sto → Prop} {S : Sto} {E : Env} {P : PQ}
@[simp] theorem ok_ok {a : α} : Ok (.ok a S) Q = Q a S := propext ⟨fun h => by cases h; assumption, .mk⟩
@[simp] theorem ok_bad : Ok (.bad : R α) Q = False := propext ⟨fun h => (by cases h), False.elim⟩
@[simp] theorem ok_err {x : Xn} : Ok (.err x S : R α) Q = False := propext ⟨fun h => (by cases h), False.elim⟩
theorem ok_bind {r : R α} {f : α → Sto → R β} : Ok (r.bind f) Q2 = Ok r fun a S => Ok (f a S) Q2 := by
  cases r with
  | ok a S => rw [ok_ok]
  | err x S => rw [ok_err]; exact ok_err.symm
  | bad => rw [ok_bad]; exact ok_bad.symm
theorem ok_bindB {r : R α} {f : α → Sto → R β} : Ok (r.bindB f) Q2 = Ok r fun a S => Ok (f a S) Q2 := by
  cases r with
  | ok a S => rw [ok_ok]
  | err x S => rw [ok_err]; exact ok_bad
  | bad => rw [ok_bad]; exact ok_bad.symm
theorem Ok.mono {r : R α} {Q' : α → Sto → Prop} (h : Ok r Q) (i : ∀ a S, Q a S → Q' a S) : Ok r Q' := by
  cases h with
  | mk h => exact .mk (i _ _ h)
theorem Ok.eq {r : R α} (h : Ok r Q) : ∃ a S, r = .ok a S ∧ Q a S := by
  cases h with
  | mk h => exact ⟨_, _, rfl, h⟩
@[simp] theorem sok_nx : SOk (.nx E S) P = P.nx E S := propext ⟨fun h => by cases h; assumption, .nx⟩
@[simp] theorem sok_rt {d : D} : SOk (.rt d S) P = P.rt d S := propext ⟨fun h => by cases h; assumption, .rt⟩
@[simp] theorem sok_bk : SOk (.bk E S) P = P.bk E S := propext ⟨fun h => by cases h; assumption, .bk⟩
@[simp] theorem sok_ct : SOk (.ct E S) P = P.ct E S := propext ⟨fun h => by cases h; assumption, .ct⟩
@[simp] theorem sok_bad : SOk .bad P = False := propext ⟨fun h => (by cases h), False.elim⟩
@[simp] theorem sok_er {x : Xn} : SOk (.er x E S) P = False := propext ⟨fun h => (by cases h), False.elim⟩
theorem sok_of {r : R α} {f : α → Sto → RS} : SOk (RS.of r E f) P = Ok r fun a S => SOk (f a S) P := by
  cases r with
  | ok a S => rw [ok_ok]
  | err x S => rw [ok_err]; exact sok_er
  | bad => rw [ok_bad]; exact sok_bad
theorem SOk.mono {r : RS} {P' : PQ} (h : SOk r P) (h1 : ∀ E S, P.nx E S → P'.nx E S) (h2 : ∀ d S, P.rt d S → P'.rt d S) (h3 : ∀ E S, P.bk E S → P'.bk E S) (h4 : ∀ E S, P.ct E S → P'.ct E S) : SOk r P' := by
  cases h with
  | nx h => exact .nx (h1 _ _ h)
  | rt h => exact .rt (h2 _ _ h)
  | bk h => exact .bk (h3 _ _ h)
  | ct h => exact .ct (h4 _ _ h)
variable {f k h : EF} {u : AF} {p q : TF} {s t : SF} {QD : D → Sto → Prop} {QB : Bool → Sto → Prop} {QL : List D → Sto → Prop}
/-! expressions -/
@[simp] theorem ok_c {d : D} : Ok (eC d E S) QD = QD d S := ok_ok
@[simp] theorem ok_e2 {o : D → D → Sto → R D} : Ok (e2 o f k E S) QD = Ok (f E S) fun a S1 => Ok (k E S1) fun b S2 => Ok (o a b S2) QD := by
  unfold e2; rw [ok_bind]; simp only [ok_bind]
@[simp] theorem ok_e1 {o : D → Sto → R D} : Ok (e1 o f E S) QD = Ok (f E S) fun a S1 => Ok (o a S1) QD := by
  unfold e1; rw [ok_bind]
@[simp] theorem ok_eA {o : List D → Sto → R D} : Ok (eA o u E S) QD = Ok (u E S) fun ds S1 => Ok (o ds S1) QD := by
  unfold eA; rw [ok_bind]
@[simp] theorem ok_aNil : Ok (aNil E S) QL = QL [] S := ok_ok
@[simp] theorem ok_aCons : Ok (aCons f u E S) QL = Ok (f E S) fun d S1 => Ok (u E S1) fun ds S2 => QL (d :: ds) S2 := by
  unfold aCons; rw [ok_bind]; simp only [ok_bind, ok_ok]
@[simp] theorem ok_eTup : Ok (eTup u E S) QD = Ok (u E S) fun ds S1 => ds.length ≤ LINE ∧ QD (.tup ds) S1 := by
  unfold eTup; rw [ok_bind]
  congr 1; funext ds S1
  by_cases hl : ds.length ≤ LINE
  · rw [if_pos hl]; simp [hl]
  · rw [if_neg hl]; simp [hl]
@[simp] theorem ok_eLst : Ok (eLst u E S) QD = Ok (u E S) fun ds S1 => ds.length ≤ LINE ∧ QD (.ref S1.length) (S1 ++ [.lst ds]) := by
  unfold eLst; rw [ok_bind]
  congr 1; funext ds S1
  by_cases hl : ds.length ≤ LINE
  · rw [if_pos hl]; simp [hl]
  · rw [if_neg hl]; simp [hl]
@[simp] theorem ok_dict0 : Ok (eDict0 E S) QD = QD (.ref S.length) (S ++ [.dic []]) := ok_ok
@[simp] theorem ok_tOfE : Ok (tOfE f E S) QB = Ok (f E S) fun d S1 => ∃ b, d = .bl b ∧ QB b S1 := by
  unfold tOfE; rw [ok_bind]
  congr 1; funext d S1
  cases d <;> simp
@[simp] theorem ok_tTru : Ok (tTru f E S) QB = Ok (f E S) fun d S1 => ∃ b, truD d S1 = some b ∧ QB b S1 := by
  unfold tTru; rw [ok_bind]
  congr 1; funext d S1
  cases h : truD d S1 <;> simp [h]
@[simp] theorem ok_tAnd : Ok (tAndF p q E S) QB = Ok (p E S) fun b S1 => if b = true then Ok (q E S1) QB else QB false S1 := by
  unfold tAndF; rw [ok_bind]
  congr 1; funext b S1
  cases b <;> simp
@[simp] theorem ok_tOr : Ok (tOrF p q E S) QB = Ok (p E S) fun b S1 => if b = true then QB true S1 else Ok (q E S1) QB := by
  unfold tOrF; rw [ok_bind]
  congr 1; funext b S1
  cases b <;> simp
@[simp] theorem ok_tNot : Ok (tNotF p E S) QB = Ok (p E S) fun b S1 => QB (!b) S1 := by
  unfold tNotF; rw [ok_bind]; simp only [ok_ok]
@[simp] theorem ok_tYes : Ok (tYesF E S) QB = QB true S := ok_ok
@[simp] theorem ok_eIf : Ok (eIf p f k E S) QD = Ok (p E S) fun b S1 => if b = true then Ok (f E S1) QD else Ok (k E S1) QD := by
  unfold eIf; rw [ok_bind]
  congr 1; funext b S1
  cases b <;> simp
@[simp] theorem ok_andV : Ok (eAndV f k E S) QD = Ok (f E S) fun d S1 => ∃ b, truD d S1 = some b ∧ if b = true then Ok (k E S1) QD else QD d S1 := by
  unfold eAndV; rw [ok_bind]
  congr 1; funext d S1
  cases h : truD d S1 with
  | none => simp
  | some b => cases b <;> simp
@[simp] theorem ok_orV : Ok (eOrV f k E S) QD = Ok (f E S) fun d S1 => ∃ b, truD d S1 = some b ∧ if b = true then QD d S1 else Ok (k E S1) QD := by
  unfold eOrV; rw [ok_bind]
  congr 1; funext d S1
  cases h : truD d S1 with
  | none => simp
  | some b => cases b <;> simp
@[simp] theorem ok_notV : Ok (eNotV f E S) QD = Ok (f E S) fun d S1 => ∃ b, truD d S1 = some b ∧ QD (.bl (!b)) S1 := by
  unfold eNotV; rw [ok_bind]
  congr 1; funext d S1
  cases h : truD d S1 <;> simp [h]
@[simp] theorem ok_isi {t : Ty} : Ok (eIsi t f E S) QD = Ok (f E S) fun d S1 => ∃ s, tyD d S1 = some s ∧ QD (.bl (isSub s t)) S1 := by
  unfold eIsi; rw [ok_bind]
  congr 1; funext d S1
  cases h : tyD d S1 <;> simp [h]
@[simp] theorem ok_eMt {t : Ty} {m : D → List D → Sto → R D} : Ok (eMt t m f u E S) QD = Ok (f E S) fun d S1 => hasTy t d S1 = true ∧ Ok (u E S1) fun ds S2 => Ok (m d ds S2) QD := by
  unfold eMt; rw [ok_bind]
  congr 1; funext d S1
  by_cases hl : hasTy t d S1 = true
  · rw [if_pos hl, ok_bind]; simp [hl]
  · rw [if_neg hl]; simp [hl]
@[simp] theorem ok_eSl {l hh : OF} : Ok (eSl f l hh E S) QD = Ok (f E S) fun a S1 => Ok (l E S1) fun l S2 => Ok (hh E S2) fun h S3 => Ok (oSl a l h S3) QD := by
  unfold eSl; simp only [ok_bind]
@[simp] theorem ok_eRev {l hh : OF} : Ok (eRev f l hh E S) QD = Ok (f E S) fun a S1 => Ok (l E S1) fun l S2 => Ok (hh E S2) fun h S3 => Ok (oRev a l h S3) QD := by
  unfold eRev; simp only [ok_bind]
@[simp] theorem ok_noP {QO : Option Int → Sto → Prop} : Ok (oNoP E S) QO = QO none S := ok_ok
@[simp] theorem ok_part {QO : Option Int → Sto → Prop} : Ok (oPart f E S) QO = Ok (f E S) fun d S1 => ∃ i, d = .int i ∧ QO (some i) S1 := by
  unfold oPart; rw [ok_bind]
  congr 1; funext d S1
  cases d <;> simp
theorem ok_var {i : Nat} {d : D} (h : E[i]? = some (some d)) : Ok (eVar i E S) QD = QD d S := by
  unfold eVar; rw [h]; exact ok_ok
@[simp] theorem ok_var0 {d : D} {r : Env} : Ok (eVar 0 (some d :: r) S) QD = QD d S := ok_ok
@[simp] theorem ok_varS {i : Nat} {x : Option D} {r : Env} : Ok (eVar (i + 1) (x :: r) S) QD = Ok (eVar i r S) QD := rfl
@[simp] theorem ok_fmt : Ok (eFmt f E S) QD = Ok (f E S) fun d S1 => (∃ x, d = .str x ∧ x.length ≤ LINE ∧ QD (.str x) S1) ∨ ∃ i, d = .int i ∧ smallI i = true ∧ QD (.str (sInt i)) S1 := by
  unfold eFmt; rw [ok_bind]
  congr 1; funext d S1
  cases d with
  | str x => by_cases hl : x.length ≤ LINE <;> simp [hl]
  | int i => by_cases hl : smallI i = true <;> simp [hl]
  | _ => simp
theorem ok_jsN_nil {acc : List Nat} {Q : List Nat → Sto → Prop} : Ok (jsN [] acc E S) Q = Q acc S := ok_ok
theorem ok_jsN_cons {fs : List EF} {acc : List Nat} {Q : List Nat → Sto → Prop} : Ok (jsN (f :: fs) acc E S) Q = Ok (f E S) fun d S1 => ∃ y, d = .str y ∧ acc.length + y.length ≤ LINE ∧ Ok (jsN fs (acc ++ y) E S1) Q := by
  show Ok (R.bind _ _) _ = _
  rw [ok_bind]
  congr 1; funext d S1
  cases d with
  | str y => by_cases hl : acc.length + y.length ≤ LINE <;> simp [hl]
  | _ => simp
@[simp] theorem ok_join {fs : List EF} : Ok (eJoin fs E S) QD = Ok (jsN fs [] E S) fun s S1 => QD (.str s) S1 := by
  unfold eJoin; rw [ok_bind]; simp only [ok_ok]
@[simp] theorem ok_fld {i : Nat} {cs : List Nat} : Ok (eFld i cs f E S) QD = Ok (f E S) fun d S1 => ∃ r c fs x, d = .ref r ∧ S1[r]? = some (.ins c fs) ∧ cs.contains c = true ∧ fs.lookup i = some x ∧ QD x S1 := by
  unfold eFld; rw [ok_bind]
  congr 1; funext d S1
  apply propext; constructor
  · intro q
    cases d with
    | ref r =>
      simp only at q
      split at q
      · rename_i c fs hS
        split at q
        · rename_i hc
          split at q
          · rename_i x hx
            exact ⟨r, c, fs, x, rfl, hS, hc, hx, by simpa using q⟩
          · simp at q
        · simp at q
      · simp at q
    | _ => simp at q
  · rintro ⟨r, c, fs, x, rfl, h1, h2, h3, q⟩
    simp only [h1, if_pos h2, h3, ok_ok]
    exact q
@[simp] theorem ok_get1 : Ok (eGet1 f k E S) QD = Ok (f E S) fun d S1 => (dicAt d S1).isSome = true ∧ Ok (k E S1) fun y S2 => ∃ kvs kk, dicAt d S2 = some kvs ∧ keyD y = some kk ∧ QD ((dGet kvs y).getD .non) S2 := by
  unfold eGet1; rw [ok_bind]
  congr 1; funext d S1
  cases h : dicAt d S1 with
  | none => simp
  | some kvs =>
    simp only [ok_bind, Option.isSome_some, true_and]
    congr 1; funext y S2
    cases h2 : dicAt d S2 <;> cases h3 : keyD y <;> simp
/-! statements -/
@[simp] theorem sok_next : SOk (sNext E S) P = P.nx E S := sok_nx
@[simp] theorem sok_brk : SOk (sBreak E S) P = P.bk E S := sok_bk
@[simp] theorem sok_cnt : SOk (sCont E S) P = P.ct E S := sok_ct
@[simp] theorem sok_seq : SOk (sSeq s t E S) P = SOk (s E S) ⟨fun E1 S1 => SOk (t E1 S1) P, P.rt, P.bk, P.ct⟩ := by
  unfold sSeq
  cases s E S <;> simp
theorem SOk.seq (h : SOk (s E S) ⟨fun E1 S1 => SOk (t E1 S1) P, P.rt, P.bk, P.ct⟩) : SOk (sSeq s t E S) P := by rw [sok_seq]; exact h
@[simp] theorem sok_expr : SOk (sExpr f E S) P = Ok (f E S) fun _ S1 => P.nx E S1 := by
  unfold sExpr; rw [sok_of]; simp only [sok_nx]
@[simp] theorem sok_ret : SOk (sRet f E S) P = Ok (f E S) fun d S1 => P.rt d S1 := by
  unfold sRet; rw [sok_of]; simp only [sok_rt]
@[simp] theorem sok_retN : SOk (sRetN E S) P = P.rt .non S := sok_rt
@[simp] theorem sok_if : SOk (sIf p s t E S) P = Ok (p E S) fun b S1 => if b = true then SOk (s E S1) P else SOk (t E S1) P := by
  unfold sIf; rw [sok_of]
  congr 1; funext b S1
  cases b <;> rfl
@[simp] theorem sok_asg {g : TgF} : SOk (sAsg f g E S) P = Ok (f E S) fun d S1 => ∃ E1, g d E = some E1 ∧ P.nx E1 S1 := by
  unfold sAsg; rw [sok_of]
  congr 1; funext d S1
  cases h : g d E <;> simp [h]
@[simp] theorem sok_sub : SOk (sSub f k h E S) P = Ok (h E S) fun v S1 => Ok (f E S1) fun o S2 => Ok (k E S2) fun i S3 => ∃ S4, stSub o i v S3 = some S4 ∧ P.nx E S4 := by
  unfold sSub; simp only [sok_of]
  congr 1; funext v S1; congr 1; funext o S2; congr 1; funext i S3
  cases hh : stSub o i v S3 <;> simp [hh]
@[simp] theorem sok_fldS {i : Nat} {cs : List Nat} : SOk (sFldS i cs f k E S) P = Ok (k E S) fun y S1 => Ok (f E S1) fun d S2 => ∃ r c fs, d = .ref r ∧ S2[r]? = some (.ins c fs) ∧ cs.contains c = true ∧ fs.length < 900 ∧ P.nx E (S2.set r (.ins c (putN i y fs))) := by
  unfold sFldS; simp only [sok_of]
  congr 1; funext y S1; congr 1; funext d S2
  apply propext; constructor
  · intro q
    cases d with
    | ref r =>
      simp only at q
      split at q
      · rename_i c fs hS
        split at q
        · rename_i hc
          exact ⟨r, c, fs, rfl, hS, hc.1, hc.2, by simpa using q⟩
        · simp at q
      · simp at q
    | _ => simp at q
  · rintro ⟨r, c, fs, rfl, h1, h2, h3, q⟩
    simp only [h1, if_pos (And.intro h2 h3), sok_nx]
    exact q
@[simp] theorem sok_del : SOk (sDel f k E S) P = Ok (f E S) fun o S1 => Ok (k E S1) fun y S2 => ∃ n kvs kk d, o = .ref n ∧ S2[n]? = some (.dic kvs) ∧ keyD y = some kk ∧ dGet kvs y = some d ∧ P.nx E (S2.set n (.dic (dDel kvs y))) := by
  unfold sDel; simp only [sok_of]
  congr 1; funext o S1; congr 1; funext y S2
  apply propext; constructor
  · intro q
    cases o with
    | ref n =>
      simp only at q
      split at q
      · rename_i kvs hS
        split at q
        · rename_i kk hk
          split at q
          · rename_i d hd
            exact ⟨n, kvs, kk, d, rfl, hS, hk, hd, by simpa using q⟩
          · simp at q
        · simp at q
      · simp at q
    | _ => simp at q
  · rintro ⟨n, kvs, kk, d, rfl, h1, h2, h3, q⟩
    simp only [h1, h2, h3, sok_nx]
    exact q
theorem ok_def {N n : Nat} {b : SF} {ds : List D} (hl : ds.length = n) (h : SOk (b (env0 N ds) S) ⟨fun _ S => QD .non S, QD, fun _ _ => False, fun _ _ => False⟩) : Ok (mDef N n b ds S) QD := by
  unfold mDef
  rw [if_pos hl]
  generalize b (env0 N ds) S = r at h ⊢
  cases h with
  | nx h => exact .mk h
  | rt h => exact .mk h
  | bk h => exact h.elim
  | ct h => exact h.elim
/-! methods -/
theorem ok_meth {t : MTab} {r c : Nat} {fs : List (Nat × D)} {mm : List D → Sto → R D} {E : Env} (hf : Ok (f E S) fun d S1 => d = .ref r ∧ S1[r]? = some (.ins c fs) ∧ t.lookup c = some mm ∧ Ok (u E S1) fun ds S2 => Ok (mm (.ref r :: ds) S2) QD) : Ok (eMeth t f u E S) QD := by
  unfold eMeth
  rw [ok_bind]
  refine hf.mono fun d S1 ⟨e, h1, h2, h3⟩ => ?_
  subst e
  simp only [h1, h2, ok_bind]
  exact h3
theorem ok_methX {t : MTab} {bad : List Nat} {r c : Nat} {fs : List (Nat × D)} {mm : List D → Sto → R D} {E : Env} (hf : Ok (f E S) fun d S1 => d = .ref r ∧ S1[r]? = some (.ins c fs) ∧ (fs.all fun p => !bad.contains p.1) = true ∧ t.lookup c = some mm ∧ Ok (u E S1) fun ds S2 => Ok (mm (.ref r :: ds) S2) QD) : Ok (eMethX t bad f u E S) QD := by
  unfold eMethX
  rw [ok_bind]
  refine hf.mono fun d S1 ⟨e, h1, h0, h2, h3⟩ => ?_
  subst e
  simp only [h1, if_pos h0, h2, ok_bind]
  exact h3
theorem ok_make {c : Nat} {mm : List D → Sto → R D} (h : Ok (u E S) fun ds S1 => Ok (mm (.ref S1.length :: ds) (S1 ++ [.ins c []])) fun d S2 => d = .non ∧ QD (.ref S1.length) S2) : Ok (eMake c mm u E S) QD := by
  unfold eMake
  rw [ok_bind]
  refine h.mono fun ds S1 q => ?_
  obtain ⟨d, S2, hm, e, q⟩ := q.eq
  subst e
  rw [hm]
  exact .mk q
end
/-! ### loops -/
/-- what stands at the i-th turn -/
def Src.At (s : Src) (ds : List D) (S : Sto) : Prop := ∀ i, s.nxt i S = some ds[i]?
theorem srcVals_at (ds : List D) (S : Sto) : (srcVals ds).At ds S := fun i => rfl
theorem srcList_at {xs : List D} {r : Nat} {S : Sto} (h : S[r]? = some (.lst xs) ∨ S[r]? = some (.frz xs)) (ys : List D) : (srcList ys r).At xs S := fun i => by
  unfold srcList
  rcases h with h | h <;> simp [h]
theorem for_inv {s : Src} {t : TgF} {b : SF} {ds : List D} {Q : PQ} (I : Nat → Env → Sto → Prop) (hs : ∀ i E S, I i E S → s.At ds S)
    (step : ∀ i d E S, ds[i]? = some d → I i E S → ∃ E1, t d E = some E1 ∧ SOk (b E1 S) ⟨I (i + 1), Q.rt, Q.nx, I (i + 1)⟩) (fin : ∀ E S, I ds.length E S → Q.nx E S) : ∀ (m i : Nat) (E : Env) (S : Sto), i + m = ds.length → I i E S → SOk (forN s t b m i E S) Q
  | 0, i, E, S, hl, hI => by
    unfold forN
    rw [hs i E S hI i, List.getElem?_eq_none (by omega)]
    have e : i = ds.length := by omega
    subst e
    exact .nx (fin E S hI)
  | m + 1, i, E, S, hl, hI => by
    unfold forN
    have hi : i < ds.length := by omega
    rw [hs i E S hI i, List.getElem?_eq_getElem hi]
    obtain ⟨E1, h1, h2⟩ := step i ds[i] E S (List.getElem?_eq_getElem hi) hI
    simp only [h1]
    cases hb : b E1 S with
    | nx E2 S2 => rw [hb, sok_nx] at h2; exact for_inv I hs step fin m (i + 1) E2 S2 (by omega) h2
    | ct E2 S2 => rw [hb, sok_ct] at h2; exact for_inv I hs step fin m (i + 1) E2 S2 (by omega) h2
    | bk E2 S2 => rw [hb, sok_bk] at h2; exact .nx h2
    | rt d S2 => rw [hb, sok_rt] at h2; exact .rt h2
    | er _ _ _ => rw [hb, sok_er] at h2; exact h2.elim
    | bad => rw [hb, sok_bad] at h2; exact h2.elim
/-- a for over what is known -/
theorem sok_for {wi : IF} {t : TgF} {b : SF} {E : Env} {S : Sto} {Q : PQ} (h : Ok (wi E S) fun s S1 => ∃ (ds : List D) (I : Nat → Env → Sto → Prop), s.n = ds.length ∧ I 0 E S1 ∧ (∀ i E S, I i E S → s.At ds S) ∧
    (∀ i d E S, ds[i]? = some d → I i E S → ∃ E1, t d E = some E1 ∧ SOk (b E1 S) ⟨I (i + 1), Q.rt, Q.nx, I (i + 1)⟩) ∧ ∀ E S, I ds.length E S → Q.nx E S) : SOk (sFor wi t b E S) Q := by
  unfold sFor
  rw [sok_of]
  refine h.mono fun s S1 ⟨ds, I, hn, h0, hs, st, fin⟩ => ?_
  exact for_inv I hs st fin s.n 0 E S1 (by omega) h0
theorem lc_inv {s : Src} {t : TgF} {p : TF} {f : EF} {E0 : Env} {D0 : Nat} {ds : List D} {Q : D → Sto → Prop} (J : Nat → List D → Sto → Prop) (hs : ∀ i acc S, J i acc S → s.At ds S) (hD : ∀ i acc S, J i acc S → S[D0]? = some (.lst acc))
    (step : ∀ i d acc S, ds[i]? = some d → J i acc S → ∃ E1, t d E0 = some E1 ∧ Ok (p E1 S) fun b S2 => if b = true then Ok (f E1 S2) fun y S3 => S3[D0]? = some (.lst acc) ∧ acc.length < LINE ∧ J (i + 1) (acc ++ [y]) (S3.set D0 (.lst (acc ++ [y]))) else J (i + 1) acc S2)
    (fin : ∀ acc S, J ds.length acc S → Q (.ref D0) S) : ∀ (m i : Nat) (acc : List D) (S : Sto), i + m = ds.length → J i acc S → Ok (lcN s t p f E0 D0 m i S) Q
  | 0, i, acc, S, hl, hI => by
    unfold lcN
    rw [hs i acc S hI i, List.getElem?_eq_none (by omega)]
    have e : i = ds.length := by omega
    subst e
    exact .mk (fin acc S hI)
  | m + 1, i, acc, S, hl, hI => by
    unfold lcN
    have hi : i < ds.length := by omega
    rw [hs i acc S hI i, List.getElem?_eq_getElem hi]
    obtain ⟨E1, h1, h2⟩ := step i ds[i] acc S (List.getElem?_eq_getElem hi) hI
    simp only [h1]
    rw [ok_bindB]
    refine h2.mono fun b S2 h3 => ?_
    cases b with
    | false =>
      simp only [Bool.false_eq_true, if_false] at h3 ⊢
      exact lc_inv J hs hD step fin m (i + 1) acc S2 (by omega) h3
    | true =>
      simp only [if_true] at h3 ⊢
      rw [ok_bindB]
      refine h3.mono fun y S3 ⟨e1, e2, e3⟩ => ?_
      simp only [lcPut, e1, if_pos e2]
      exact lc_inv J hs hD step fin m (i + 1) (acc ++ [y]) _ (by omega) e3
theorem ok_lc {own : List Nat} {wi : IF} {t : TgF} {p : TF} {f : EF} {E : Env} {S : Sto} {Q : D → Sto → Prop} (h : Ok (wi E S) fun s S1 => ∃ (ds : List D) (J : Nat → List D → Sto → Prop), s.n = ds.length ∧ J 0 [] (S1 ++ [.lst []]) ∧ (∀ i acc S, J i acc S → s.At ds S) ∧ (∀ i acc S, J i acc S → S[S1.length]? = some (.lst acc)) ∧
    (∀ i d acc S, ds[i]? = some d → J i acc S → ∃ E1, t d (wipeE E own) = some E1 ∧ Ok (p E1 S) fun b S2 => if b = true then Ok (f E1 S2) fun y S3 => S3[S1.length]? = some (.lst acc) ∧ acc.length < LINE ∧ J (i + 1) (acc ++ [y]) (S3.set S1.length (.lst (acc ++ [y]))) else J (i + 1) acc S2) ∧
    ∀ acc S, J ds.length acc S → Q (.ref S1.length) S) : Ok (eLc own wi t p f E S) Q := by
  unfold eLc
  rw [ok_bind]
  refine h.mono fun s S1 ⟨ds, J, hn, h0, hs, hD, st, fin⟩ => ?_
  exact lc_inv J hs hD st fin s.n 0 [] _ (by omega) h0
/-! ### what stays of a store -/
/-- all but M stay -/
def Kp (M : List Nat) (S S' : Sto) : Prop := S.length ≤ S'.length ∧ ∀ i o, i ∉ M → S[i]? = some o → S'[i]? = some o
theorem Kp.refl {M : List Nat} {S : Sto} : Kp M S S := ⟨Nat.le_refl _, fun _ _ _ h => h⟩
theorem Kp.trans {M : List Nat} {S S1 S2 : Sto} (a : Kp M S S1) (b : Kp M S1 S2) : Kp M S S2 := ⟨Nat.le_trans a.1 b.1, fun i o hi h => b.2 i o hi (a.2 i o hi h)⟩
theorem Kp.mono {M M' : List Nat} {S S1 : Sto} (a : Kp M S S1) (h : ∀ i ∈ M, i ∈ M') : Kp M' S S1 := ⟨a.1, fun i o hi e => a.2 i o (fun z => hi (h i z)) e⟩
theorem Kp.nil {M : List Nat} {S S1 : Sto} (a : Kp [] S S1) : Kp M S S1 := a.mono (by simp)
theorem Kp.push {S : Sto} {o : O} : Kp [] S (S ++ [o]) := ⟨by simp, fun i u _ h => by
  have hl := (List.getElem?_eq_some_iff.mp h).1
  rw [List.getElem?_append_left hl]; exact h⟩
theorem Kp.set {S : Sto} {n : Nat} {o : O} : Kp [n] S (S.set n o) := ⟨by simp, fun i u hi h => by
  rw [List.getElem?_set_ne (fun e => hi (by rw [e]; simp))]; exact h⟩
theorem Kp.at {M : List Nat} {S S1 : Sto} (a : Kp M S S1) {i : Nat} {o : O} (h : S[i]? = some o) (hi : i ∉ M := by simp) : S1[i]? = some o := a.2 i o hi h
/-- a place behind the end may change -/
theorem Kp.setNew {S S1 : Sto} {n : Nat} {o : O} (a : Kp [] S S1) (hn : S.length ≤ n) : Kp [] S (S1.set n o) := ⟨by simpa using a.1, fun i u hi h => by
  have hl := (List.getElem?_eq_some_iff.mp h).1
  rw [List.getElem?_set_ne (by omega)]; exact a.2 i u hi h⟩
theorem at_set {S : Sto} {n : Nat} {o u : O} (h : S[n]? = some u) : (S.set n o)[n]? = some o := by
  have hl := (List.getElem?_eq_some_iff.mp h).1
  rw [List.getElem?_set_self hl]
theorem at_push {S : Sto} {o : O} : (S ++ [o])[S.length]? = some o := by simp
theorem lt_of_at {S : Sto} {n : Nat} {o : O} (h : S[n]? = some o) : n < S.length := (List.getElem?_eq_some_iff.mp h).1
/-- a comprehension whose elements change nothing -/
theorem ok_lcP {own : List Nat} {wi : IF} {t : TgF} {p : TF} {f : EF} {E : Env} {S : Sto} {Q : D → Sto → Prop} (Pr : D → Bool) (F : D → D) (h : Ok (wi E S) fun s S1 => ∃ ds : List D, s.n = ds.length ∧ ds.length ≤ LINE ∧ (∀ S', Kp [] S1 S' → s.At ds S') ∧
    (∀ d ∈ ds, ∀ S', Kp [] S1 S' → ∃ E1, t d (wipeE E own) = some E1 ∧ Ok (p E1 S') fun b S2 => b = Pr d ∧ Kp [] S' S2 ∧ (b = true → Ok (f E1 S2) fun y S3 => y = F d ∧ Kp [] S2 S3)) ∧
    ∀ S', Kp [] S1 S' → S'[S1.length]? = some (.lst ((ds.filter Pr).map F)) → Q (.ref S1.length) S') : Ok (eLc own wi t p f E S) Q := by
  refine ok_lc (h.mono fun s S1 ⟨ds, hn, hl, hs, st, fin⟩ => ⟨ds, fun i acc S' => Kp [] S1 S' ∧ acc = ((ds.take i).filter Pr).map F ∧ S'[S1.length]? = some (.lst acc), hn, ⟨Kp.push, by simp, at_push⟩, fun i acc S' h => hs S' h.1, fun i acc S' h => h.2.2, ?_, ?_⟩)
  · rintro i d acc S' hd ⟨k1, rfl, k3⟩
    have htake : ds.take (i + 1) = ds.take i ++ [d] := by rw [List.take_succ, hd]; rfl
    obtain ⟨E1, h1, h2⟩ := st d (List.mem_of_getElem? hd) S' k1
    refine ⟨E1, h1, h2.mono fun b S2 ⟨e1, e2, e3⟩ => ?_⟩
    subst e1
    cases hb : Pr d with
    | false =>
      simp only [Bool.false_eq_true, if_false]
      refine ⟨k1.trans e2, by rw [htake]; simp [List.filter_append, hb], e2.at k3⟩
    | true =>
      rw [hb] at e3
      simp only [if_true]
      refine (e3 rfl).mono fun y S3 ⟨f1, f2⟩ => ?_
      subst f1
      have f3 := f2.at (e2.at k3)
      refine ⟨f3, ?_, (((k1.trans e2).trans f2)).setNew (Nat.le_refl _), by rw [htake]; simp [List.filter_append, hb], at_set f3⟩
      have hlt := (List.getElem?_eq_some_iff.mp hd).1
      rw [List.length_map]
      refine Nat.lt_of_le_of_lt (List.length_filter_le _ _) ?_
      rw [List.length_take]
      omega
  · rintro acc S' ⟨k1, rfl, k3⟩
    rw [List.take_length] at k3
    exact fin S' k1 k3
end DL
end OfDP1

section OfDP2
set_option Elab.async false
set_option linter.all false
set_option maxRecDepth 100000
/-! DP2: the draws -/
namespace DL
open PySem PySem.Spec PyProof.Rows L2

/-! the operators, by kinds -/
section
variable {S : Sto} {QD : D → Sto → Prop}
@[simp] theorem ok_gt {i j : Int} : Ok (oGt (.int i) (.int j) S) QD = QD (.bl (decide (j < i))) S := ok_ok
@[simp] theorem ok_ge {i j : Int} : Ok (oGe (.int i) (.int j) S) QD = QD (.bl (decide (j ≤ i))) S := ok_ok
@[simp] theorem ok_le {i j : Int} : Ok (oLe (.int i) (.int j) S) QD = QD (.bl (decide (i ≤ j))) S := ok_ok
@[simp] theorem ok_lt {i j : Int} : Ok (oLt (.int i) (.int j) S) QD = QD (.bl (decide (i < j))) S := ok_ok
@[simp] theorem ok_sub {i j : Int} : Ok (oSub (.int i) (.int j) S) QD = QD (.int (i - j)) S := ok_ok
@[simp] theorem ok_addI {i j : Int} : Ok (oAdd (.int i) (.int j) S) QD = QD (.int (i + j)) S := ok_ok
@[simp] theorem ok_addS {x y : List Nat} : Ok (oAdd (.str x) (.str y) S) QD = (x.length + y.length ≤ LINE ∧ QD (.str (x ++ y)) S) := by
  unfold oAdd
  by_cases h : x.length + y.length ≤ LINE <;> simp [h]
@[simp] theorem ok_addT {x y : List D} : Ok (oAdd (.tup x) (.tup y) S) QD = (x.length + y.length ≤ LINE ∧ QD (.tup (x ++ y)) S) := by
  unfold oAdd
  by_cases h : x.length + y.length ≤ LINE <;> simp [h]
theorem ok_addL {n m : Nat} {x y : List D} (h1 : S[n]? = some (.lst x)) (h2 : S[m]? = some (.lst y)) (hl : x.length + y.length ≤ LINE) : Ok (oAdd (.ref n) (.ref m) S) QD = QD (.ref S.length) (S ++ [.lst (x ++ y)]) := by
  simp [oAdd, h1, h2, hl]
theorem ok_mul {i j : Int} (h : (-W64 < i ∧ i < W64) ∨ (-W64 < j ∧ j < W64)) : Ok (oMul (.int i) (.int j) S) QD = QD (.int (i * j)) S := by
  simp [oMul, oI, h]
theorem ok_fdiv {i j : Int} (h1 : 0 < j) (h2 : j < 1073741824) : Ok (oFdiv (.int i) (.int j) S) QD = QD (.int (i / j)) S := by
  simp [oFdiv, oI, h1, h2]
theorem ok_mod {i j : Int} (h1 : 0 < j) : Ok (oMod (.int i) (.int j) S) QD = QD (.int (i % j)) S := by
  simp [oMod, oI, h1]
@[simp] theorem ok_neg {i : Int} : Ok (oNeg (.int i) S) QD = QD (.int (-i)) S := ok_ok
@[simp] theorem ok_isN {d : D} : Ok (oIsN d .non S) QD = QD (.bl (isNon d)) S := ok_ok
@[simp] theorem ok_isNotN {d : D} : Ok (oIsNotN d .non S) QD = QD (.bl (!isNon d)) S := ok_ok
@[simp] theorem ok_int {i : Int} : Ok (oInt [.int i] S) QD = QD (.int i) S := ok_ok
@[simp] theorem ok_intB {b : Bool} : Ok (oInt [.bl b] S) QD = QD (.int (if b then 1 else 0)) S := ok_ok
@[simp] theorem ok_abs {i : Int} : Ok (oAbs [.int i] S) QD = QD (.int (if i < 0 then -i else i)) S := ok_ok
theorem ok_ixL {n : Nat} {i : Int} {xs : List D} {d : D} (h : S[n]? = some (.lst xs) ∨ S[n]? = some (.frz xs)) (hd : atI xs i = some d) : Ok (oIx (.ref n) (.int i) S) QD = QD d S := by
  rcases h with h | h <;> simp [oIx, h, hd]
theorem ok_ixT {i : Int} {xs : List D} {d : D} (hd : atI xs i = some d) : Ok (oIx (.tup xs) (.int i) S) QD = QD d S := by
  simp [oIx, hd]
theorem ok_ixD {n : Nat} {kvs : List (D × D)} {k d : D} (h : S[n]? = some (.dic kvs)) (hk : (keyD k).isSome = true) (hd : dGet kvs k = some d) : Ok (oIx (.ref n) k S) QD = QD d S := by
  cases hkk : keyD k with
  | none => rw [hkk] at hk; cases hk
  | some z => simp [oIx, h, hkk, hd]
theorem ok_lenL {n : Nat} {xs : List D} (h : S[n]? = some (.lst xs) ∨ S[n]? = some (.frz xs)) : Ok (oLen [.ref n] S) QD = QD (.int xs.length) S := by
  rcases h with h | h <;> simp [oLen, h]
theorem ok_lenD {n : Nat} {xs : List (D × D)} (h : S[n]? = some (.dic xs)) : Ok (oLen [.ref n] S) QD = QD (.int xs.length) S := by
  simp [oLen, h]
@[simp] theorem ok_lenT {xs : List D} : Ok (oLen [.tup xs] S) QD = QD (.int xs.length) S := ok_ok
@[simp] theorem ok_lenS {xs : List Nat} : Ok (oLen [.str xs] S) QD = (xs.length ≤ LINE ∧ QD (.int xs.length) S) := by
  unfold oLen
  by_cases h : xs.length ≤ LINE <;> simp [h]
theorem stSub_lst {n : Nat} {j : Int} {m : Nat} {xs : List D} {v : D} (h : S[n]? = some (.lst xs)) (hj : ixN xs.length j = some m) : stSub (.ref n) (.int j) v S = some (S.set n (.lst (xs.set m v))) := by
  simp [stSub, h, hj]
theorem stSub_dic {n : Nat} {kvs : List (D × D)} {k v : D} (h : S[n]? = some (.dic kvs)) (hk : (keyD k).isSome = true) (hl : kvs.length < LINE) : stSub (.ref n) k v S = some (S.set n (.dic (dPut kvs k v))) := by
  cases hkk : keyD k with
  | none => rw [hkk] at hk; cases hk
  | some z => cases k <;> simp [stSub, h, keyD, hl] <;> simp [keyD] at hkk
end
def nextB : SF := (sSeq (sIf (tOfE (e2 oGt (e2 oIx (eVar 0) (eC (.int 1))) (eC (.int 0)))) (sSeq (sAsg (e2 oMod (eA oInt (aCons (e2 oIx (eVar 0) (eC (.int 1))) aNil)) (eVar 2)) (gNm 4)) (sSeq (sSub (eVar 0) (eC (.int 1)) (e2 oFdiv (eA oInt (aCons (e2 oIx (eVar 0) (eC (.int 1))) aNil)) (eVar 2))) (sRet (eVar 4)))) sNext) (sSeq (sAsg (eC (.int 0)) (gNm 3)) (sSeq (sIf (tOfE (e2 oLt (e2 oIx (eVar 0) (eC (.int 0))) (eA oLen (aCons (eVar 1) aNil)))) (sAsg (eA oAbs (aCons (eA oInt (aCons (e2 oIx (eVar 1) (e2 oIx (eVar 0) (eC (.int 0)))) aNil)) aNil)) (gNm 3)) sNext) (sSeq (sSub (eVar 0) (eC (.int 0)) (e2 oAdd (e2 oIx (eVar 0) (eC (.int 0))) (eC (.int 1)))) (sSeq (sIf (tOfE (e2 oGe (eVar 3) (e2 oPow (eC (.int 10)) (eC (.int 18))))) (sSeq (sSub (eVar 0) (eC (.int 1)) (e2 oFdiv (eVar 3) (eVar 2))) (sRet (e2 oMod (eA oInt (aCons (eVar 3) aNil)) (eVar 2)))) sNext) (sSeq (sSub (eVar 0) (eC (.int 2)) (e2 oMod (eA oInt (aCons (e2 oAdd (e2 oAdd (e2 oMul (e2 oIx (eVar 0) (eC (.int 2))) (eC (.int 48271))) (e2 oMul (eVar 3) (eC (.int 69621)))) (eC (.int 12345))) aNil)) (eC (.int 2147483647)))) (sRet (e2 oMod (eA oInt (aCons (e2 oAdd (e2 oFdiv (e2 oIx (eVar 0) (eC (.int 2))) (eC (.int 7))) (e2 oFdiv (e2 oMul (e2 oIx (eVar 0) (eC (.int 2))) (e2 oIx (eVar 0) (eC (.int 2)))) (eC (.int 65537)))) aNil)) (eVar 2)))))))))
theorem at3_0 {a b c : D} : atI [a, b, c] 0 = some a := rfl
theorem at3_1 {a b c : D} : atI [a, b, c] 1 = some b := rfl
theorem at3_2 {a b c : D} : atI [a, b, c] 2 = some c := rfl
theorem next_ok {S : Sto} {st sc : Nat} {a b c m : Int} {ns : List Int} (h0 : S[st]? = some (.lst [.int a, .int b, .int c])) (h1 : S[sc]? = some (.frz (ns.map D.int))) (ha : 0 ≤ a) (hm : 0 < m) (hm2 : m < 1073741824) :
    Ok (mDef 5 3 nextB [.ref st, .ref sc, .int m] S) fun r S' => ∃ i a' b' c' : Int, r = .int i ∧ 0 ≤ i ∧ i < m ∧ 0 ≤ a' ∧ S' = S.set st (.lst [.int a', .int b', .int c']) := by
  have hne : st ≠ sc := fun e => by rw [e, h1] at h0; cases h0
  refine ok_def rfl ?_
  have hx0 : ∀ {x y z : D} {S : Sto} {QD : D → Sto → Prop}, S[st]? = some (.lst [x, y, z]) → Ok (oIx (.ref st) (.int 0) S) QD = QD x S := fun h => ok_ixL (.inl h) rfl
  have hx1 : ∀ {x y z : D} {S : Sto} {QD : D → Sto → Prop}, S[st]? = some (.lst [x, y, z]) → Ok (oIx (.ref st) (.int 1) S) QD = QD y S := fun h => ok_ixL (.inl h) rfl
  have hx2 : ∀ {x y z : D} {S : Sto} {QD : D → Sto → Prop}, S[st]? = some (.lst [x, y, z]) → Ok (oIx (.ref st) (.int 2) S) QD = QD z S := fun h => ok_ixL (.inl h) rfl
  have hs0 : ∀ {x y z v : D} {S : Sto}, S[st]? = some (.lst [x, y, z]) → stSub (.ref st) (.int 0) v S = some (S.set st (.lst [v, y, z])) := fun h => stSub_lst (j := 0) (m := 0) h rfl
  have hs1 : ∀ {x y z v : D} {S : Sto}, S[st]? = some (.lst [x, y, z]) → stSub (.ref st) (.int 1) v S = some (S.set st (.lst [x, v, z])) := fun h => stSub_lst (j := 1) (m := 1) h rfl
  have hs2 : ∀ {x y z v : D} {S : Sto}, S[st]? = some (.lst [x, y, z]) → stSub (.ref st) (.int 2) v S = some (S.set st (.lst [x, y, v])) := fun h => stSub_lst (j := 2) (m := 2) h rfl
  have hset : ∀ o, (S.set st o)[st]? = some o := fun o => at_set h0
  have hpow : ∀ {S : Sto} {Q : D → Sto → Prop}, Ok (oPow (.int 10) (.int 18) S) Q = Q (.int 1000000000000000000) S := by intro S Q; simp [oPow, oI]
  have ev : ∀ {S : Sto} {Q : D → Sto → Prop} {o : Option D} {x y z v : D}, Ok (eVar 4 [o, some x, some y, some z, some v] S) Q = Q v S := fun {S Q o x y z v} => ok_ok
  unfold nextB
  refine SOk.seq ?_
  simp only [env0, List.map_cons, List.map_nil, List.length_cons, List.length_nil, List.replicate, List.cons_append, List.nil_append, sok_if, ok_tOfE, ok_e2, ok_var0, ok_varS, ok_c, hx1 h0, ok_gt, D.bl.injEq, exists_eq_left', decide_eq_true_eq, sok_next]
  by_cases hb : 0 < b
  · rw [if_pos hb]
    simp only [sok_seq, sok_asg, ok_e2, ok_eA, ok_aCons, ok_aNil, ok_var0, ok_varS, ok_c, hx1 h0, ok_int, ok_mod hm, gNm, List.set_cons_succ, List.set_cons_zero, Option.some.injEq, exists_eq_left', sok_sub, ok_fdiv hm hm2, hs1 h0, sok_ret]
    exact ⟨b % m, a, b / m, c, rfl, Int.emod_nonneg _ (by omega), Int.emod_lt_of_pos _ hm, ha, rfl⟩
  · rw [if_neg hb]
    have hsc : ∀ o, (S.set st o)[sc]? = some (.frz (ns.map D.int)) := fun o => by rw [List.getElem?_set_ne hne]; exact h1
    have fin : ∀ w : Int, SOk (sSeq (sSub (eVar 0) (eC (.int 0)) (e2 oAdd (e2 oIx (eVar 0) (eC (.int 0))) (eC (.int 1)))) (sSeq (sIf (tOfE (e2 oGe (eVar 3) (e2 oPow (eC (.int 10)) (eC (.int 18))))) (sSeq (sSub (eVar 0) (eC (.int 1)) (e2 oFdiv (eVar 3) (eVar 2))) (sRet (e2 oMod (eA oInt (aCons (eVar 3) aNil)) (eVar 2)))) sNext) (sSeq (sSub (eVar 0) (eC (.int 2)) (e2 oMod (eA oInt (aCons (e2 oAdd (e2 oAdd (e2 oMul (e2 oIx (eVar 0) (eC (.int 2))) (eC (.int 48271))) (e2 oMul (eVar 3) (eC (.int 69621)))) (eC (.int 12345))) aNil)) (eC (.int 2147483647)))) (sRet (e2 oMod (eA oInt (aCons (e2 oAdd (e2 oFdiv (e2 oIx (eVar 0) (eC (.int 2))) (eC (.int 7))) (e2 oFdiv (e2 oMul (e2 oIx (eVar 0) (eC (.int 2))) (e2 oIx (eVar 0) (eC (.int 2)))) (eC (.int 65537)))) aNil)) (eVar 2))))) [some (.ref st), some (.ref sc), some (.int m), some (.int w), none] S)
        ⟨fun _ S' => ∃ i a' b' c' : Int, D.non = .int i ∧ 0 ≤ i ∧ i < m ∧ 0 ≤ a' ∧ S' = S.set st (.lst [.int a', .int b', .int c']), fun r S' => ∃ i a' b' c' : Int, r = .int i ∧ 0 ≤ i ∧ i < m ∧ 0 ≤ a' ∧ S' = S.set st (.lst [.int a', .int b', .int c']), fun _ _ => False, fun _ _ => False⟩ := fun w => by
      simp only [sok_seq, sok_sub, ok_e2, ok_var0, ok_varS, ok_c, hx0 h0, ok_addI, hs0 h0, Option.some.injEq, exists_eq_left', sok_if, ok_tOfE, hpow, ok_ge, D.bl.injEq, decide_eq_true_eq]
      by_cases hw : (1000000000000000000 : Int) ≤ w
      · rw [if_pos hw]
        simp only [sok_seq, sok_sub, ok_e2, ok_var0, ok_varS, ok_c, ok_fdiv hm hm2, hs1 (hset _), Option.some.injEq, exists_eq_left', sok_ret, ok_eA, ok_aCons, ok_aNil, ok_int, ok_mod hm, List.set_set]
        exact ⟨w % m, a + 1, w / m, c, rfl, Int.emod_nonneg _ (by omega), Int.emod_lt_of_pos _ hm, by omega, rfl⟩
      · rw [if_neg hw]
        have hc1 := Int.emod_nonneg (c * 48271 + w * 69621 + 12345) (b := 2147483647) (by decide)
        have hc2 := Int.emod_lt_of_pos (c * 48271 + w * 69621 + 12345) (b := 2147483647) (by decide)
        simp only [sok_next, sok_seq, sok_sub, ok_e2, ok_eA, ok_aCons, ok_aNil, ok_var0, ok_varS, ok_c, hx2 (hset _), ok_mul (i := c) (j := 48271) (.inr (by decide)), ok_mul (i := w) (j := 69621) (.inr (by decide)), ok_addI, ok_int, ok_mod (show (0 : Int) < 2147483647 by decide), hs2 (hset _), Option.some.injEq, exists_eq_left', sok_ret, List.set_set,
          ok_fdiv (show (0 : Int) < 7 by decide) (by decide), ok_fdiv (show (0 : Int) < 65537 by decide) (by decide)]
        generalize hcc : (c * 48271 + w * 69621 + 12345) % 2147483647 = cc at *
        have hm3 : Ok (oMul (.int cc) (.int cc) (S.set st (.lst [.int (a + 1), .int b, .int cc]))) = fun Q => Q (.int (cc * cc)) (S.set st (.lst [.int (a + 1), .int b, .int cc])) := by
          funext Q
          exact ok_mul (.inl ⟨by show -(18446744073709551616 : Int) < cc; omega, by show cc < (18446744073709551616 : Int); omega⟩)
        simp only [hm3, ok_fdiv (show (0 : Int) < 65537 by decide) (by decide), ok_addI, ok_int, ok_mod hm]
        exact ⟨_, a + 1, b, cc, rfl, Int.emod_nonneg _ (by omega), Int.emod_lt_of_pos _ hm, by omega, rfl⟩
    refine SOk.seq ?_
    simp only [sok_asg, ok_c, gNm, List.set_cons_succ, List.set_cons_zero, Option.some.injEq, exists_eq_left']
    refine SOk.seq ?_
    simp only [sok_asg, gNm, List.set_cons_succ, List.set_cons_zero, Option.some.injEq, exists_eq_left', sok_if, ok_tOfE, ok_e2, ok_var0, ok_varS, hx0 h0, ok_eA, ok_aCons, ok_aNil, ok_c, ok_lenL (.inr h1), List.length_map, ok_lt, D.bl.injEq, decide_eq_true_eq, sok_next]
    by_cases hl : a < ns.length
    · rw [if_pos hl]
      have hat : atI (ns.map D.int) a = some (.int (ns[a.toNat]'(by omega))) := by
        unfold atI ixN
        rw [if_pos ha, if_pos (by simpa using hl)]
        simp
      simp only [ok_ixL (.inr h1) hat, ok_int, ok_abs]
      exact fin _
    · rw [if_neg hl]
      exact fin 0
end DL
end OfDP2

section OfDP3
set_option Elab.async false
set_option linter.all false
set_option maxRecDepth 100000
/-! DP3: what is walked; dicts; equality of plain values -/
namespace DL
open PySem PySem.Spec PyProof.Rows L2

section
variable {S : Sto} {E : Env} {f k : EF} {u : AF} {QD : D → Sto → Prop} {QI : Src → Sto → Prop} {QB : Bool → Sto → Prop}
@[simp] theorem ok_rng1 : Ok (iRng1D u E S) QI = Ok (u E S) fun ds S1 => ∃ j : Int, ds = [.int j] ∧ -BIG ≤ j ∧ j < BIG ∧ QI (srcVals (rngD 0 j.toNat)) S1 := by
  unfold iRng1D; rw [ok_bind]
  congr 1; funext ds S1
  apply propext; constructor
  · intro q
    split at q
    · split at q
      · rename_i j h
        exact ⟨j, rfl, h.1, h.2, by simpa using q⟩
      · simp at q
    · simp at q
  · rintro ⟨j, rfl, h1, h2, q⟩
    simp only [if_pos (And.intro h1 h2), ok_ok]
    exact q
def anyQ (d : D) (S : Sto) (Q : Src → Sto → Prop) : Prop := match d with
  | .ref r => match S[r]? with
    | some (.lst xs) => Q (srcList xs r) S
    | some (.frz xs) => Q (srcList xs r) S
    | _ => False
  | .tup ds => Q (srcVals ds) S
  | .str s => Q (srcVals (s.map fun c => .str [c])) S
  | _ => False
@[simp] theorem ok_iAny : Ok (iAny f E S) QI = Ok (f E S) fun d S1 => anyQ d S1 QI := by
  unfold iAny; rw [ok_bind]
  congr 1; funext d S1
  unfold anyQ
  cases d with
  | ref r =>
    simp only
    split <;> simp_all
  | _ => simp
@[simp] theorem anyQ_tup {ds : List D} : anyQ (.tup ds) S QI = QI (srcVals ds) S := rfl
theorem anyQ_lst {r : Nat} {xs : List D} (h : S[r]? = some (.lst xs)) : anyQ (.ref r) S QI = QI (srcList xs r) S := by simp [anyQ, h]
theorem rng_get {n i : Nat} {d : D} (h : (rngD 0 n)[i]? = some d) : i < n ∧ d = .int i := by
  unfold rngD at h
  rw [List.getElem?_map] at h
  by_cases hi : i < n
  · rw [List.getElem?_range hi] at h
    simp at h
    exact ⟨hi, h.symm⟩
  · rw [List.getElem?_eq_none (by simpa using hi)] at h
    cases h
@[simp] theorem rng_len {n : Nat} {lo : Int} : (rngD lo n).length = n := by simp [rngD]
/-- for x in range(n) -/
theorem sok_forR {v : Nat} {b : SF} {Q : PQ} {n : Nat} (I : Nat → Env → Sto → Prop) (h : Ok (u E S) fun ds S1 => ds = [.int n] ∧ (n : Int) < BIG ∧ I 0 E S1 ∧
    (∀ i E S, i < n → I i E S → SOk (b (E.set v (some (.int i))) S) ⟨I (i + 1), Q.rt, Q.nx, I (i + 1)⟩) ∧ ∀ E S, I n E S → Q.nx E S) : SOk (sFor (iRng1D u) (gNm v) b E S) Q := by
  refine sok_for ?_
  rw [ok_rng1]
  refine h.mono fun ds S1 ⟨h1, h2, h3, h4, h5⟩ => ⟨n, h1, ?_, h2, rngD 0 (n : Int).toNat, I, rfl, h3, fun i E S _ => srcVals_at _ _, fun i d E S hd hI => ?_, fun E S hI => h5 E S ?_⟩
  · show -(4611686018427387904 : Int) ≤ _
    omega
  · obtain ⟨hi, rfl⟩ := rng_get hd
    exact ⟨_, rfl, h4 i E S (by simpa using hi) hI⟩
  · simpa using hI
/-- for x in a tuple -/
theorem sok_forT {t : TgF} {b : SF} {Q : PQ} {ds : List D} (I : Nat → Env → Sto → Prop) (h : Ok (f E S) fun d S1 => d = .tup ds ∧ I 0 E S1 ∧
    (∀ i d E S, ds[i]? = some d → I i E S → ∃ E1, t d E = some E1 ∧ SOk (b E1 S) ⟨I (i + 1), Q.rt, Q.nx, I (i + 1)⟩) ∧ ∀ E S, I ds.length E S → Q.nx E S) : SOk (sFor (iAny f) t b E S) Q := by
  refine sok_for ?_
  rw [ok_iAny]
  refine h.mono fun d S1 ⟨h1, h3, h4, h5⟩ => ?_
  subst h1
  exact ⟨ds, I, rfl, h3, fun i E S _ => srcVals_at _ _, h4, h5⟩
/-- for x in a list that stays -/
theorem sok_forL {t : TgF} {b : SF} {Q : PQ} {ds : List D} {r : Nat} (I : Nat → Env → Sto → Prop) (h : Ok (f E S) fun d S1 => d = .ref r ∧ S1[r]? = some (.lst ds) ∧ I 0 E S1 ∧ (∀ i E S, I i E S → S[r]? = some (.lst ds)) ∧
    (∀ i d E S, ds[i]? = some d → I i E S → ∃ E1, t d E = some E1 ∧ SOk (b E1 S) ⟨I (i + 1), Q.rt, Q.nx, I (i + 1)⟩) ∧ ∀ E S, I ds.length E S → Q.nx E S) : SOk (sFor (iAny f) t b E S) Q := by
  refine sok_for ?_
  rw [ok_iAny]
  refine h.mono fun d S1 ⟨h1, h2, h3, h6, h4, h5⟩ => ?_
  subst h1
  rw [anyQ_lst h2]
  exact ⟨ds, I, rfl, h3, fun i E S hI => srcList_at (.inl (h6 i E S hI)) _, h4, h5⟩
theorem ok_in {a b : D} {r : Bool} (h : oInB a b S = some r) : Ok (oIn a b S) QD = QD (.bl r) S := by simp [oIn, h]
theorem ok_notIn {a b : D} {r : Bool} (h : oInB a b S = some r) : Ok (oNotIn a b S) QD = QD (.bl (!r)) S := by simp [oNotIn, h]
theorem ok_eq {a b : D} {r : Bool} (h : deqT S EQK a b = some r) : Ok (oEq a b S) QD = QD (.bl r) S := by simp [oEq, h]
theorem ok_ne {a b : D} {r : Bool} (h : deqT S EQK a b = some r) : Ok (oNe a b S) QD = QD (.bl (!r)) S := by simp [oNe, h]
@[simp] theorem ok_eqI {i j : Int} : Ok (oEq (.int i) (.int j) S) QD = QD (.bl (i == j)) S := ok_eq rfl
@[simp] theorem ok_neI {i j : Int} : Ok (oNe (.int i) (.int j) S) QD = QD (.bl (!(i == j))) S := ok_ne rfl
theorem ok_neI_self {i : Int} : Ok (oNe (.int i) (.int i) S) QD = QD (.bl false) S := by rw [ok_neI]; simp
@[simp] theorem ok_eqS {i j : List Nat} : Ok (oEq (.str i) (.str j) S) QD = QD (.bl (i == j)) S := ok_eq rfl
@[simp] theorem ok_neS {i j : List Nat} : Ok (oNe (.str i) (.str j) S) QD = QD (.bl (!(i == j))) S := ok_ne rfl
@[simp] theorem ok_eqB {i j : Bool} : Ok (oEq (.bl i) (.bl j) S) QD = QD (.bl (i == j)) S := ok_eq rfl
@[simp] theorem ok_neB {i j : Bool} : Ok (oNe (.bl i) (.bl j) S) QD = QD (.bl (!(i == j))) S := ok_ne rfl
@[simp] theorem truD_bl {b : Bool} : truD (.bl b) S = some b := rfl
@[simp] theorem isNon_non : isNon .non = true := rfl
@[simp] theorem isNon_bl {b : Bool} : isNon (.bl b) = false := rfl
@[simp] theorem isNon_int {b : Int} : isNon (.int b) = false := rfl
@[simp] theorem isNon_str {b : List Nat} : isNon (.str b) = false := rfl
@[simp] theorem isNon_tup {b : List D} : isNon (.tup b) = false := rfl
@[simp] theorem isNon_ref {b : Nat} : isNon (.ref b) = false := rfl
@[simp] theorem tyD_non : tyD .non S = some .non := rfl
@[simp] theorem tyD_bl {b : Bool} : tyD (.bl b) S = some .bl := rfl
@[simp] theorem tyD_int {b : Int} : tyD (.int b) S = some .int := rfl
@[simp] theorem tyD_str {b : List Nat} : tyD (.str b) S = some .str := rfl
@[simp] theorem tyD_tup {b : List D} : tyD (.tup b) S = some .tup := rfl
theorem ok_append {n : Nat} {xs : List D} {y : D} (h : S[n]? = some (.lst xs)) (hl : xs.length < LINE) : Ok (mAppend (.ref n) [y] S) QD = QD .non (S.set n (.lst (xs ++ [y]))) := by simp [mAppend, h, hl]
theorem hasTy_lst {n : Nat} {xs : List D} (h : S[n]? = some (.lst xs)) : hasTy .lst (.ref n) S = true := by simp [hasTy, h]
theorem dicAt_of {n : Nat} {kvs : List (D × D)} (h : S[n]? = some (.dic kvs)) : dicAt (.ref n) S = some kvs := by simp [dicAt, h, dicO]
theorem oInB_dic {n : Nat} {kvs : List (D × D)} {k : D} (h : S[n]? = some (.dic kvs)) (hk : (keyD k).isSome = true) : oInB k (.ref n) S = some (dGet kvs k).isSome := by
  cases hkk : keyD k with
  | none => rw [hkk] at hk; cases hk
  | some z => simp [oInB, h, hkk]
theorem oInB_lst {n : Nat} {xs : List D} {k : D} (h : S[n]? = some (.lst xs)) : oInB k (.ref n) S = anyEq (fun y => deq S EQK y k) xs := by simp [oInB, h]
@[simp] theorem ok_tupT {l : List D} : Ok (oTuple [.tup l] S) QD = QD (.tup l) S := ok_ok
theorem ok_tupL {n : Nat} {xs : List D} (h : S[n]? = some (.lst xs)) : Ok (oTuple [.ref n] S) QD = QD (.tup xs) S := by simp [oTuple, h]
theorem ok_tupD {n : Nat} {kvs : List (D × D)} (h : S[n]? = some (.dic kvs)) : Ok (oTuple [.ref n] S) QD = QD (.tup (kvs.map (·.1))) S := by simp [oTuple, h]
theorem ok_listL {n : Nat} {xs : List D} (h : S[n]? = some (.lst xs)) : Ok (oList [.ref n] S) QD = QD (.ref S.length) (S ++ [.lst xs]) := by simp [oList, h]
@[simp] theorem ok_slT {xs : List D} {lo hi : Option Int} : Ok (oSl (.tup xs) lo hi S) QD = QD (.tup (cutL xs lo hi)) S := ok_ok
@[simp] theorem ok_slS {xs : List Nat} {lo hi : Option Int} : Ok (oSl (.str xs) lo hi S) QD = (xs.length ≤ LINE ∧ QD (.str (cutL xs lo hi)) S) := by
  unfold oSl
  by_cases h : xs.length ≤ LINE <;> simp [h]
theorem ok_slL {n : Nat} {xs : List D} {lo hi : Option Int} (h : S[n]? = some (.lst xs)) : Ok (oSl (.ref n) lo hi S) QD = QD (.ref S.length) (S ++ [.lst (cutL xs lo hi)]) := by simp [oSl, h]
theorem ok_strI {i : Int} (h : smallI i = true) : Ok (oStr [.int i] S) QD = QD (.str (sInt i)) S := by simp [oStr, h]
end
theorem lt_BIG {n : Nat} (h : n ≤ LINE) : (n : Int) < BIG := Int.lt_of_le_of_lt (Int.ofNat_le.mpr h) (by decide)
theorem smallI_of {i : Int} (h1 : -1000000 ≤ i) (h2 : i ≤ 1000000) : smallI i = true := by
  unfold smallI
  refine decide_eq_true ?_
  have h3 : i.natAbs < 2 ^ 1920 := Nat.lt_of_lt_of_le (show i.natAbs < 2 ^ 20 by omega) (Nat.pow_le_pow_right (by decide) (by decide))
  by_cases h0 : i.natAbs = 0
  · rw [h0]; decide
  · exact (Nat.log2_lt h0).mpr h3
/-! plain values: no object within -/
mutual
def plainD : Nat → D → Bool
  | 0, _ => false
  | _ + 1, .non => true
  | _ + 1, .bl _ => true
  | _ + 1, .int _ => true
  | _ + 1, .str _ => true
  | k + 1, .tup l => plainL k l && decide (l.length ≤ LINE)
  | _ + 1, .ref _ => false
def plainL : Nat → List D → Bool
  | _, [] => true
  | k, d :: r => plainD k d && plainL k r
end
theorem plainL_get : ∀ {k : Nat} {l : List D} {i : Nat} {d : D}, plainL k l = true → l[i]? = some d → plainD k d = true
  | _, [], _, _, _, h => by simp at h
  | k, x :: r, 0, d, hp, h => by
    simp at h
    subst h
    rw [plainL, Bool.and_eq_true] at hp
    exact hp.1
  | k, x :: r, i + 1, d, hp, h => by
    rw [plainL, Bool.and_eq_true] at hp
    exact plainL_get hp.2 (by simpa using h)
/-- the laws' own comparison of a value with itself -/
def sameB (self : List D → Sto → R D) : SF := (sSeq (sIf (tOfE (e2 oIsN (eVar 1) (eC .non))) (sRet (e2 oIsN (eVar 0) (eC .non))) sNext) (sSeq (sIf (tTru (eIsi .tup (eVar 1))) (sSeq (sIf (tOrF (tNotF (tTru (eIsi .tup (eVar 0)))) (tOfE (e2 oNe (eA oLen (aCons (eVar 0) aNil)) (eA oLen (aCons (eVar 1) aNil))))) (sRet (eC (.bl false))) sNext) (sSeq (sFor (iRng1D (aCons (eA oLen (aCons (eVar 1) aNil)) aNil)) (gNm 2) (sIf (tNotF (tTru (eA self (aCons (e2 oIx (eVar 0) (eVar 2)) (aCons (e2 oIx (eVar 1) (eVar 2)) aNil))))) (sRet (eC (.bl false))) sNext)) (sRet (eC (.bl true))))) sNext) (sSeq (sIf (tTru (eIsi .bl (eVar 1))) (sRet (eAndV (eIsi .bl (eVar 0)) (e2 oEq (eVar 0) (eVar 1)))) sNext) (sSeq (sIf (tTru (eIsi .int (eVar 1))) (sRet (eAndV (eIsi .int (eVar 0)) (eAndV (eNotV (eIsi .bl (eVar 0))) (e2 oEq (eVar 0) (eVar 1))))) sNext) (sRet (eAndV (eIsi .str (eVar 0)) (e2 oEq (eVar 0) (eVar 1))))))))
theorem same_step {self : List D → Sto → R D} {k : Nat} (ih : ∀ d S, plainD k d = true → Ok (self [d, d] S) fun r S' => r = .bl true ∧ S' = S) (d : D) (S : Sto) (hp : plainD (k + 1) d = true) : Ok (mDef 3 2 (sameB self) [d, d] S) fun r S' => r = .bl true ∧ S' = S := by
  refine ok_def rfl ?_
  have hE : env0 3 [d, d] = [some d, some d, none] := rfl
  rw [hE]
  unfold sameB
  cases d with
  | non => simp
  | bl b => simp [isSub]
  | int i => simp [isSub]
  | str x => simp [isSub]
  | ref n => simp [plainD] at hp
  | tup l =>
    rw [plainD, Bool.and_eq_true, decide_eq_true_eq] at hp
    obtain ⟨h1, h2⟩ := hp
    refine SOk.seq ?_
    simp only [sok_if, ok_tOfE, ok_e2, ok_varS, ok_var0, ok_c, ok_isN, isNon_tup, D.bl.injEq, exists_eq_left', Bool.false_eq_true, if_false, sok_next]
    refine SOk.seq ?_
    simp only [sok_if, ok_tTru, ok_isi, ok_varS, ok_var0, tyD_tup, Option.some.injEq, exists_eq_left', truD_bl]
    simp only [isSub, decide_true, Bool.true_or, if_true]
    refine SOk.seq ?_
    simp only [sok_if, ok_tOr, ok_tNot, ok_tTru, ok_isi, ok_varS, ok_var0, tyD_tup, Option.some.injEq, exists_eq_left', truD_bl, isSub, decide_true, Bool.true_or, Bool.not_true, Bool.false_eq_true, if_false]
    simp only [ok_tOfE, ok_e2, ok_eA, ok_aCons, ok_aNil, ok_varS, ok_var0, ok_lenT, ok_neI_self]
    refine ⟨false, rfl, ?_⟩
    simp only [Bool.false_eq_true, if_false, sok_next]
    refine SOk.seq ?_
    refine sok_forR (n := l.length) (fun i E S' => S' = S ∧ ∃ x, E = [some (.tup l), some (.tup l), x]) ?_
    simp only [ok_aCons, ok_eA, ok_varS, ok_var0, ok_aNil, ok_lenT]
    refine ⟨trivial, lt_BIG h2, ⟨trivial, _, rfl⟩, ?_, ?_⟩
    · rintro i E S' hi ⟨rfl, x, rfl⟩
      have hx : atI l (i : Int) = some l[i] := atI_nat (List.getElem?_eq_getElem hi)
      simp only [List.set_cons_succ, List.set_cons_zero, sok_if, ok_tNot, ok_tTru, ok_eA, ok_aCons, ok_aNil, ok_e2, ok_var0, ok_varS, ok_ixT hx]
      refine (ih l[i] S' (plainL_get h1 (List.getElem?_eq_getElem hi))).mono fun r S2 ⟨e1, e2⟩ => ?_
      subst e1 e2
      exact ⟨true, rfl, by simp⟩
    · rintro E S' ⟨rfl, x, rfl⟩
      simp
end DL
end OfDP3

section OfDP4
set_option Elab.async false
set_option linter.all false
set_option maxRecDepth 100000
/-! DP4: comprehensions over what is known; sets of keys -/
namespace DL
open PySem PySem.Spec PyProof.Rows L2

theorem dc_inv {s : Src} {t : TgF} {p : TF} {f k : EF} {E0 : Env} {D0 : Nat} {ds : List D} {Q : D → Sto → Prop} (J : Nat → List (D × D) → Sto → Prop) (hs : ∀ i acc S, J i acc S → s.At ds S) (hD : ∀ i acc S, J i acc S → S[D0]? = some (.dic acc))
    (step : ∀ i d acc S, ds[i]? = some d → J i acc S → ∃ E1, t d E0 = some E1 ∧ Ok (p E1 S) fun b S2 => if b = true then Ok (f E1 S2) fun x S3 => Ok (k E1 S3) fun y S4 => S4[D0]? = some (.dic acc) ∧ (keyD x).isSome = true ∧ acc.length < LINE ∧ J (i + 1) (dPut acc x y) (S4.set D0 (.dic (dPut acc x y))) else J (i + 1) acc S2)
    (fin : ∀ acc S, J ds.length acc S → Q (.ref D0) S) : ∀ (m i : Nat) (acc : List (D × D)) (S : Sto), i + m = ds.length → J i acc S → Ok (dcN s t p f k E0 D0 m i S) Q
  | 0, i, acc, S, hl, hI => by
    unfold dcN
    rw [hs i acc S hI i, List.getElem?_eq_none (by omega)]
    have e : i = ds.length := by omega
    subst e
    exact .mk (fin acc S hI)
  | m + 1, i, acc, S, hl, hI => by
    unfold dcN
    have hi : i < ds.length := by omega
    rw [hs i acc S hI i, List.getElem?_eq_getElem hi]
    obtain ⟨E1, h1, h2⟩ := step i ds[i] acc S (List.getElem?_eq_getElem hi) hI
    simp only [h1]
    rw [ok_bindB]
    refine h2.mono fun b S2 h3 => ?_
    cases b with
    | false =>
      simp only [Bool.false_eq_true, if_false] at h3 ⊢
      exact dc_inv J hs hD step fin m (i + 1) acc S2 (by omega) h3
    | true =>
      simp only [if_true] at h3 ⊢
      rw [ok_bindB]
      refine h3.mono fun x S3 h4 => ?_
      rw [ok_bindB]
      refine h4.mono fun y S4 ⟨e1, e2, e3, e4⟩ => ?_
      cases hk : keyD x with
      | none => rw [hk] at e2; cases e2
      | some z =>
        simp only [dcPut, e1, hk, if_pos e3]
        exact dc_inv J hs hD step fin m (i + 1) _ _ (by omega) e4
theorem ok_dc {own : List Nat} {wi : IF} {t : TgF} {p : TF} {f k : EF} {E : Env} {S : Sto} {Q : D → Sto → Prop} (h : Ok (wi E S) fun s S1 => ∃ (ds : List D) (J : Nat → List (D × D) → Sto → Prop), s.n = ds.length ∧ J 0 [] (S1 ++ [.dic []]) ∧ (∀ i acc S, J i acc S → s.At ds S) ∧ (∀ i acc S, J i acc S → S[S1.length]? = some (.dic acc)) ∧
    (∀ i d acc S, ds[i]? = some d → J i acc S → ∃ E1, t d (wipeE E own) = some E1 ∧ Ok (p E1 S) fun b S2 => if b = true then Ok (f E1 S2) fun x S3 => Ok (k E1 S3) fun y S4 => S4[S1.length]? = some (.dic acc) ∧ (keyD x).isSome = true ∧ acc.length < LINE ∧ J (i + 1) (dPut acc x y) (S4.set S1.length (.dic (dPut acc x y))) else J (i + 1) acc S2) ∧
    ∀ acc S, J ds.length acc S → Q (.ref S1.length) S) : Ok (eDc own wi t p f k E S) Q := by
  unfold eDc
  rw [ok_bind]
  refine h.mono fun s S1 ⟨ds, J, hn, h0, hs, hD, st, fin⟩ => ?_
  exact dc_inv J hs hD st fin s.n 0 [] _ (by omega) h0
theorem dPut_len (kvs : List (D × D)) (k v : D) : (dPut kvs k v).length ≤ kvs.length + 1 := by
  unfold dPut
  split
  · simp
  · simp
theorem foldPut_len {α : Type} (K V : α → D) : ∀ (xs : List α) (acc : List (D × D)), (xs.foldl (fun acc x => dPut acc (K x) (V x)) acc).length ≤ acc.length + xs.length
  | [], acc => by simp
  | x :: xs, acc => by
    rw [List.foldl_cons]
    have := foldPut_len K V xs (dPut acc (K x) (V x))
    have := dPut_len acc (K x) (V x)
    simp only [List.length_cons]
    omega
section
variable {α : Type}
/-- a list comprehension over known things, its elements changing nothing -/
theorem ok_lcM {own : List Nat} {wi : IF} {t : TgF} {p : TF} {f : EF} {E : Env} {S : Sto} {Q : D → Sto → Prop} (xs : List α) (gx : α → D) (Pr : α → Bool) (F : α → D) (h : Ok (wi E S) fun s S1 => s.n = xs.length ∧ xs.length ≤ LINE ∧ (∀ S', Kp [] S1 S' → s.At (xs.map gx) S') ∧
    (∀ x ∈ xs, ∀ S', Kp [] S1 S' → ∃ E1, t (gx x) (wipeE E own) = some E1 ∧ Ok (p E1 S') fun b S2 => b = Pr x ∧ Kp [] S' S2 ∧ (b = true → Ok (f E1 S2) fun y S3 => y = F x ∧ Kp [] S2 S3)) ∧
    ∀ S', Kp [] S1 S' → S'[S1.length]? = some (.lst ((xs.filter Pr).map F)) → Q (.ref S1.length) S') : Ok (eLc own wi t p f E S) Q := by
  refine ok_lc (h.mono fun s S1 ⟨hn, hl, hs, st, fin⟩ => ⟨xs.map gx, fun i acc S' => Kp [] S1 S' ∧ acc = ((xs.take i).filter Pr).map F ∧ S'[S1.length]? = some (.lst acc), by simpa using hn, ⟨Kp.push, by simp, at_push⟩, fun i acc S' h => hs S' h.1, fun i acc S' h => h.2.2, ?_, ?_⟩)
  · rintro i d acc S' hd ⟨k1, rfl, k3⟩
    rw [List.getElem?_map] at hd
    obtain ⟨x, hx, rfl⟩ := Option.map_eq_some_iff.mp hd
    have htake : xs.take (i + 1) = xs.take i ++ [x] := by rw [List.take_succ, hx]; rfl
    obtain ⟨E1, h1, h2⟩ := st x (List.mem_of_getElem? hx) S' k1
    refine ⟨E1, h1, h2.mono fun b S2 ⟨e1, e2, e3⟩ => ?_⟩
    subst e1
    cases hb : Pr x with
    | false =>
      simp only [Bool.false_eq_true, if_false]
      refine ⟨k1.trans e2, by rw [htake]; simp [List.filter_append, hb], e2.at k3⟩
    | true =>
      rw [hb] at e3
      simp only [if_true]
      refine (e3 rfl).mono fun y S3 ⟨f1, f2⟩ => ?_
      subst f1
      have f3 := f2.at (e2.at k3)
      refine ⟨f3, ?_, (((k1.trans e2).trans f2)).setNew (Nat.le_refl _), by rw [htake]; simp [List.filter_append, hb], at_set f3⟩
      have hlt := (List.getElem?_eq_some_iff.mp hx).1
      rw [List.length_map]
      refine Nat.lt_of_le_of_lt (List.length_filter_le _ _) ?_
      rw [List.length_take]
      omega
  · rintro acc S' ⟨k1, rfl, k3⟩
    rw [List.length_map, List.take_length] at k3
    exact fin S' k1 k3
/-- a dict comprehension over known things -/
theorem ok_dcM {own : List Nat} {wi : IF} {t : TgF} {p : TF} {f k : EF} {E : Env} {S : Sto} {Q : D → Sto → Prop} (xs : List α) (gx : α → D) (Pr : α → Bool) (F V : α → D) (hK : ∀ x ∈ xs, (keyD (F x)).isSome = true) (h : Ok (wi E S) fun s S1 => s.n = xs.length ∧ xs.length ≤ LINE ∧ (∀ S', Kp [] S1 S' → s.At (xs.map gx) S') ∧
    (∀ x ∈ xs, ∀ S', Kp [] S1 S' → ∃ E1, t (gx x) (wipeE E own) = some E1 ∧ Ok (p E1 S') fun b S2 => b = Pr x ∧ Kp [] S' S2 ∧ (b = true → Ok (f E1 S2) fun y S3 => Ok (k E1 S3) fun v S4 => y = F x ∧ v = V x ∧ Kp [] S2 S4)) ∧
    ∀ S', Kp [] S1 S' → S'[S1.length]? = some (.dic ((xs.filter Pr).foldl (fun acc x => dPut acc (F x) (V x)) [])) → Q (.ref S1.length) S') : Ok (eDc own wi t p f k E S) Q := by
  refine ok_dc (h.mono fun s S1 ⟨hn, hl, hs, st, fin⟩ => ⟨xs.map gx, fun i acc S' => Kp [] S1 S' ∧ acc = ((xs.take i).filter Pr).foldl (fun acc x => dPut acc (F x) (V x)) [] ∧ S'[S1.length]? = some (.dic acc), by simpa using hn, ⟨Kp.push, by simp, at_push⟩, fun i acc S' h => hs S' h.1, fun i acc S' h => h.2.2, ?_, ?_⟩)
  · rintro i d acc S' hd ⟨k1, rfl, k3⟩
    rw [List.getElem?_map] at hd
    obtain ⟨x, hx, rfl⟩ := Option.map_eq_some_iff.mp hd
    have htake : xs.take (i + 1) = xs.take i ++ [x] := by rw [List.take_succ, hx]; rfl
    obtain ⟨E1, h1, h2⟩ := st x (List.mem_of_getElem? hx) S' k1
    refine ⟨E1, h1, h2.mono fun b S2 ⟨e1, e2, e3⟩ => ?_⟩
    subst e1
    cases hb : Pr x with
    | false =>
      simp only [Bool.false_eq_true, if_false]
      refine ⟨k1.trans e2, by rw [htake]; simp [List.filter_append, hb], e2.at k3⟩
    | true =>
      rw [hb] at e3
      simp only [if_true]
      refine (e3 rfl).mono fun y S3 h4 => h4.mono fun v S4 ⟨f0, f1, f2⟩ => ?_
      subst f0 f1
      have f3 := f2.at (e2.at k3)
      refine ⟨f3, hK x (List.mem_of_getElem? hx), ?_, (((k1.trans e2).trans f2)).setNew (Nat.le_refl _), by rw [htake]; simp [List.filter_append, hb], at_set f3⟩
      have hlt := (List.getElem?_eq_some_iff.mp hx).1
      have h5 := foldPut_len F V ((xs.take i).filter Pr) []
      have h6 := List.length_filter_le Pr (xs.take i)
      rw [List.length_take] at h6
      simp only [List.length_nil] at h5
      omega
  · rintro acc S' ⟨k1, rfl, k3⟩
    rw [List.length_map, List.take_length] at k3
    exact fin S' k1 k3
theorem ddK_map {β : Type} [DecidableEq α] [DecidableEq β] {f : α → β} (hf : ∀ a b, f a = f b → a = b) (l : List α) : ddK (l.map f) = (ddK l).map f := by
  have h : ∀ (l acc : List α), (l.map f).foldl (fun acc v => if v ∈ acc then acc else acc ++ [v]) (acc.map f) = (l.foldl (fun acc v => if v ∈ acc then acc else acc ++ [v]) acc).map f := by
    intro l
    induction l with
    | nil => intro acc; rfl
    | cons x r ih =>
      intro acc
      rw [List.map_cons, List.foldl_cons, List.foldl_cons]
      have hm : (f x ∈ acc.map f) = (x ∈ acc) := by
        apply propext
        rw [List.mem_map]
        constructor
        · rintro ⟨y, hy, e⟩; rw [← hf _ _ e]; exact hy
        · intro hx; exact ⟨x, hx, rfl⟩
      by_cases hx : x ∈ acc
      · rw [if_pos (by rw [hm]; exact hx), if_pos hx]; exact ih acc
      · rw [if_neg (by rw [hm]; exact hx), if_neg hx]
        have := ih (acc ++ [x])
        rw [List.map_append] at this
        exact this
  exact h l []
end
theorem mapM_str (xs : List (List Nat)) : (xs.map D.str).mapM keyD = some (xs.map fun x => (.inr (T x) : Key)) := by
  induction xs with
  | nil => rfl
  | cons x r ih => simp [List.mapM_cons, ih, keyD]
theorem ok_lenSetS {E : Env} {S : Sto} {f : EF} {Q : D → Sto → Prop} (h : Ok (f E S) fun d S1 => ∃ (n : Nat) (xs : List (List Nat)), d = .ref n ∧ S1[n]? = some (.lst (xs.map D.str)) ∧ xs.length < 4000 ∧ Q (.int (ddK xs).length) S1) : Ok (eLenSet f E S) Q := by
  unfold eLenSet
  rw [ok_bind]
  refine h.mono fun d S1 ⟨n, xs, e, h1, h2, q⟩ => ?_
  subst e
  have e1 : lsOf (.ref n) S1 = some (xs.map D.str) := by simp [lsOf, h1, lstO]
  simp only [e1, mapM_str]
  rw [if_pos (by rw [List.length_map]; exact h2), ddK_map (f := fun x => (.inr (T x) : Key)) (fun a b e => T_inj (Sum.inr.inj e)), List.length_map]
  exact .mk q
def ddA {K : Type} [DecidableEq K] (l acc : List K) : List K := l.foldl (fun acc v => if v ∈ acc then acc else acc ++ [v]) acc
theorem ddA_in {K : Type} [DecidableEq K] {v : K} {l acc : List K} (h : v ∈ acc) : ddA (v :: l) acc = ddA l acc := by unfold ddA; rw [List.foldl_cons, if_pos h]
theorem ddA_out {K : Type} [DecidableEq K] {v : K} {l acc : List K} (h : ¬ v ∈ acc) : ddA (v :: l) acc = ddA l (acc ++ [v]) := by unfold ddA; rw [List.foldl_cons, if_neg h]
theorem keys_fold {α : Type} (K : α → List Nat) (V : α → D) : ∀ (xs : List α) (acc : List (D × D)) (ks : List (List Nat)), acc.map (·.1) = ks.map D.str → (xs.foldl (fun acc x => dPut acc (.str (K x)) (V x)) acc).map (·.1) = (ddA (xs.map K) ks).map D.str
  | [], acc, ks, h => h
  | x :: xs, acc, ks, h => by
    rw [List.foldl_cons, List.map_cons]
    have hany : (acc.any fun p => keq p.1 (.str (K x))) = decide (K x ∈ ks) := by
      have e : (acc.any fun p => keq p.1 (.str (K x))) = (acc.map (·.1)).any fun d => keq d (.str (K x)) := by rw [List.any_map]; rfl
      rw [e, h, List.any_map]
      clear h e
      induction ks with
      | nil => rfl
      | cons k r ih =>
        rw [List.any_cons, ih]
        by_cases hk : k = K x
        · subst hk; simp [keq]
        · have hk2 : ¬ K x = k := fun e => hk e.symm
          simp [keq, hk, hk2]
    by_cases hm : K x ∈ ks
    · rw [ddA_in hm]
      refine keys_fold K V xs _ _ ?_
      unfold dPut
      rw [hany, if_pos (by simpa using hm), List.map_map]
      rw [← h]
      refine List.map_congr_left fun p _ => ?_
      simp only [Function.comp]
      split <;> rfl
    · rw [ddA_out hm]
      refine keys_fold K V xs _ _ ?_
      unfold dPut
      rw [hany, if_neg (by simpa using hm), List.map_append, List.map_append, h]
      rfl
theorem len_fold {α : Type} (K : α → List Nat) (V : α → D) (xs : List α) : (xs.foldl (fun acc x => dPut acc (.str (K x)) (V x)) []).length = (ddK (xs.map K)).length := by
  have h := congrArg List.length (keys_fold K V xs [] [] rfl)
  rw [List.length_map, List.length_map] at h
  exact h
theorem anyEq_map {α : Type} {f : D → Option Bool} {g : α → D} {h : α → Bool} (e : ∀ x, f (g x) = some (h x)) : ∀ xs : List α, anyEq f (xs.map g) = some (xs.any h)
  | [] => rfl
  | x :: xs => by
    rw [List.map_cons]
    unfold anyEq
    rw [e x, anyEq_map e xs, List.any_cons]
end DL
end OfDP4

section OfK39
set_option Elab.async false
set_option linter.all false
set_option maxRecDepth 100000
/-! written by gen.py: the mirrors of truemill_k39_good_claims and that the defs are mirrored by them -/
namespace K39
open PySem PySem.Spec PyProof.Rows L2 DL

def b__law_next : SF := (sSeq (sIf (tOfE (e2 oGt (e2 oIx (eVar 0) (eC (.int 1))) (eC (.int 0)))) (sSeq (sAsg (e2 oMod (eA oInt (aCons (e2 oIx (eVar 0) (eC (.int 1))) aNil)) (eVar 2)) (gNm 4)) (sSeq (sSub (eVar 0) (eC (.int 1)) (e2 oFdiv (eA oInt (aCons (e2 oIx (eVar 0) (eC (.int 1))) aNil)) (eVar 2))) (sRet (eVar 4)))) sNext) (sSeq (sAsg (eC (.int 0)) (gNm 3)) (sSeq (sIf (tOfE (e2 oLt (e2 oIx (eVar 0) (eC (.int 0))) (eA oLen (aCons (eVar 1) aNil)))) (sAsg (eA oAbs (aCons (eA oInt (aCons (e2 oIx (eVar 1) (e2 oIx (eVar 0) (eC (.int 0)))) aNil)) aNil)) (gNm 3)) sNext) (sSeq (sSub (eVar 0) (eC (.int 0)) (e2 oAdd (e2 oIx (eVar 0) (eC (.int 0))) (eC (.int 1)))) (sSeq (sIf (tOfE (e2 oGe (eVar 3) (e2 oPow (eC (.int 10)) (eC (.int 18))))) (sSeq (sSub (eVar 0) (eC (.int 1)) (e2 oFdiv (eVar 3) (eVar 2))) (sRet (e2 oMod (eA oInt (aCons (eVar 3) aNil)) (eVar 2)))) sNext) (sSeq (sSub (eVar 0) (eC (.int 2)) (e2 oMod (eA oInt (aCons (e2 oAdd (e2 oAdd (e2 oMul (e2 oIx (eVar 0) (eC (.int 2))) (eC (.int 48271))) (e2 oMul (eVar 3) (eC (.int 69621)))) (eC (.int 12345))) aNil)) (eC (.int 2147483647)))) (sRet (e2 oMod (eA oInt (aCons (e2 oAdd (e2 oFdiv (e2 oIx (eVar 0) (eC (.int 2))) (eC (.int 7))) (e2 oFdiv (e2 oMul (e2 oIx (eVar 0) (eC (.int 2))) (e2 oIx (eVar 0) (eC (.int 2)))) (eC (.int 65537)))) aNil)) (eVar 2)))))))))
def m__law_next : List D → Sto → R D := mDef 5 3 b__law_next
def b_Roster___init__ : SF := (sSeq (sFldS 0 [0] (eVar 0) (eVar 1)) (sSeq (sFldS 1 [0] (eVar 0) eDict0) (sSeq (sFldS 2 [0] (eVar 0) eDict0) (sSeq (sFldS 3 [0] (eVar 0) eDict0) (sFldS 4 [0] (eVar 0) eDict0)))))
def m_Roster___init__ : List D → Sto → R D := mDef 2 2 b_Roster___init__
def b_Roster_add : SF := (sSeq (sIf (tOfE (e2 oIn (eVar 1) (eFld 1 [0] (eVar 0)))) (fun _ _ => .bad) sNext) (sSeq (sIf (tOfE (e2 oGe (eA oLen (aCons (eFld 1 [0] (eVar 0)) aNil)) (eC (.int 20)))) (fun _ _ => .bad) sNext) (sSub (eFld 1 [0] (eVar 0)) (eVar 1) (eC (.int 0)))))
def m_Roster_add : List D → Sto → R D := mDef 2 2 b_Roster_add
def b__law_houses : SF := (sSeq (sAsg (eLc [4] (iRng1D (aCons (eVar 1) aNil)) (gNm 4) tYesF (e2 oAdd (eC (.str [104])) (eA oStr (aCons (eVar 4) aNil)))) (gNm 2)) (sSeq (sFor (iAny (eVar 2)) (gNm 3) (sExpr (eMeth [(0, m_Roster_add)] (eVar 0) (aCons (eVar 3) aNil)))) (sRet (eVar 2))))
def m__law_houses : List D → Sto → R D := mDef 5 2 b__law_houses
def b__law_topics : SF := (sRet (eLst (aCons (eC (.str [116])) (aCons (eC (.str [109, 97, 100, 101, 10])) (aCons (eC (.str [116, 111, 112, 105, 99, 32, 49, 50])) (aCons (eC (.str [])) aNil))))))
def m__law_topics : List D → Sto → R D := mDef 0 0 b__law_topics
def b_Roster_check_house : SF := (sSeq (sIf (tOfE (e2 oNotIn (eVar 1) (eFld 1 [0] (eVar 0)))) (fun _ _ => .bad) sNext) (sIf (tOfE (e2 oIn (eVar 1) (eFld 2 [0] (eVar 0)))) (fun _ _ => .bad) sNext))
def m_Roster_check_house : List D → Sto → R D := mDef 2 2 b_Roster_check_house
def b_Roster_sign : SF := (sSeq (sExpr (eMeth [(0, m_Roster_check_house)] (eVar 0) (aCons (eVar 1) aNil))) (sSeq (sAsg (eJoin [(eFmt (eVar 1)), (eC (.str [45])), (eFmt (e2 oAdd (eA oLen (aCons (eFld 3 [0] (eVar 0)) aNil)) (eC (.int 1))))]) (gNm 3)) (sSeq (sSub (eFld 3 [0] (eVar 0)) (eVar 3) (eTup (aCons (eVar 1) (aCons (eVar 2) aNil)))) (sRet (eVar 3)))))
def m_Roster_sign : List D → Sto → R D := mDef 4 3 b_Roster_sign
def b__law_words_of : SF := (sRet (e2 oAdd (e2 oAdd (e2 oAdd (eA oStr (aCons (eA oLen (aCons (eVar 0) aNil)) aNil)) (eC (.str [58]))) (eVar 0)) (eVar 1)))
def m__law_words_of : List D → Sto → R D := mDef 2 2 b__law_words_of
def b_Cache___init__ : SF := (sSeq (sFldS 5 [1] (eVar 0) (eVar 1)) (sFldS 6 [1] (eVar 0) eDict0))
def m_Cache___init__ : List D → Sto → R D := mDef 2 2 b_Cache___init__
def b__law_vouchers : SF := (sSeq (sAsg (eLst (aCons (eTup (aCons (eC (.str [104, 48])) (aCons (eC (.str [104, 48, 45, 57, 57])) aNil))) aNil)) (gNm 4)) (sSeq (sFor (iAny (eVar 3)) (gNm 5) (sSeq (sAsg (eA m__law_next (aCons (eVar 0) (aCons (eVar 1) (aCons (eC (.int 6)) aNil)))) (gNm 6)) (sSeq (sIf (tOfE (e2 oGt (eVar 6) (eC (.int 1)))) (sExpr (eMt .lst mAppend (eVar 4) (aCons (eTup (aCons (e2 oIx (eVar 5) (eC (.int 0))) (aCons (e2 oIx (eVar 5) (eC (.int 1))) aNil))) aNil))) sNext) (sIf (tOfE (e2 oEq (eVar 6) (eC (.int 1)))) (sExpr (eMt .lst mAppend (eVar 4) (aCons (eTup (aCons (e2 oIx (eVar 5) (eC (.int 0))) (aCons (e2 oIx (eLst (aCons (e2 oAdd (eC (.str [122, 122])) (e2 oIx (eVar 5) (eC (.int 1)))) (aCons (eSl (e2 oIx (eVar 5) (eC (.int 1))) (oPart (eC (.int 1))) oNoP) (aCons (e2 oAdd (e2 oIx (eVar 5) (eC (.int 1))) (eC (.str [32]))) (aCons (e2 oAdd (eC (.str [104, 57])) (eSl (e2 oIx (eVar 5) (eC (.int 1))) (oPart (eC (.int 2))) oNoP)) aNil))))) (eA m__law_next (aCons (eVar 0) (aCons (eVar 1) (aCons (eC (.int 4)) aNil))))) aNil))) aNil))) sNext)))) (sSeq (sIf (tOfE (e2 oEq (eA m__law_next (aCons (eVar 0) (aCons (eVar 1) (aCons (eC (.int 3)) aNil)))) (eC (.int 0)))) (sAsg (e2 oAdd (eVar 4) (eVar 4)) (gNm 4)) sNext) (sSeq (sIf (tAndF (tOfE (e2 oGt (eA oLen (aCons (eVar 3) aNil)) (eC (.int 0)))) (tOfE (e2 oEq (eA m__law_next (aCons (eVar 0) (aCons (eVar 1) (aCons (eC (.int 3)) aNil)))) (eC (.int 0))))) (sExpr (eMt .lst mAppend (eVar 4) (aCons (eTup (aCons (e2 oIx (eVar 2) (eA m__law_next (aCons (eVar 0) (aCons (eVar 1) (aCons (eC (.int 5)) aNil))))) (aCons (e2 oIx (e2 oIx (eVar 3) (eC (.int 0))) (eC (.int 1))) aNil))) aNil))) sNext) (sRet (eA oTuple (aCons (eVar 4) aNil)))))))
def m__law_vouchers : List D → Sto → R D := mDef 7 4 b__law_vouchers
def b_Cache_topics : SF := (sRet (eA oTuple (aCons (eFld 6 [1] (eVar 0)) aNil)))
def m_Cache_topics : List D → Sto → R D := mDef 1 1 b_Cache_topics
def b_Cache_put : SF := (sSeq (sIf (tOfE (e2 oIn (eVar 1) (eFld 6 [1] (eVar 0)))) (sDel (eFld 6 [1] (eVar 0)) (eVar 1)) sNext) (sSeq (sSub (eFld 6 [1] (eVar 0)) (eVar 1) (eTup (aCons (eVar 2) (aCons (eVar 3) aNil)))) (sSeq (sIf (tOfE (e2 oLe (eA oLen (aCons (eFld 6 [1] (eVar 0)) aNil)) (eFld 5 [1] (eVar 0)))) (sRet (eC .non)) sNext) (sSeq (sAsg (e2 oIx (eMethX [(1, m_Cache_topics)] [4] (eVar 0) aNil) (eC (.int 0))) (gNm 4)) (sSeq (sDel (eFld 6 [1] (eVar 0)) (eVar 4)) (sRet (eVar 4)))))))
def m_Cache_put : List D → Sto → R D := mDef 5 4 b_Cache_put
def b_Roster_revoke : SF := (sSeq (sExpr (eMeth [(0, m_Roster_check_house)] (eVar 0) (aCons (eVar 1) aNil))) (sSub (eFld 2 [0] (eVar 0)) (eVar 1) (eC (.bl true))))
def m_Roster_revoke : List D → Sto → R D := mDef 2 2 b_Roster_revoke
def b__law_good : SF := (sSeq (sIf (tOfE (e2 oIsN (eVar 4) (eC .non))) (sRet (eTup (aCons (eC .non) (aCons (eTup aNil) aNil)))) sNext) (sSeq (sAsg (eLc [7] (iAny (eVar 0)) (gNm 7) (tAndF (tOfE (e2 oEq (eSl (eVar 7) (oPart (eC (.int 2))) oNoP) (eTup (aCons (eVar 3) (aCons (e2 oIx (eVar 4) (eC (.int 0))) aNil))))) (tOfE (e2 oNotIn (e2 oIx (eVar 7) (eC (.int 0))) (eVar 1)))) (eTup (aCons (e2 oIx (eVar 7) (eC (.int 0))) (aCons (e2 oIx (eVar 7) (eC (.int 1))) aNil)))) (gNm 5)) (sSeq (sAsg (eA oTuple (aCons (eLc [8] (iAny (e2 oIx (eVar 4) (eC (.int 1)))) (gNm 8) (tOfE (e2 oIn (eVar 8) (eVar 5))) (eVar 8)) aNil)) (gNm 6)) (sSeq (sIf (tOfE (e2 oLt (eLenSet (eLc [8] (iAny (eVar 6)) (gNm 8) tYesF (e2 oIx (eVar 8) (eC (.int 0))))) (eVar 2))) (sRet (eTup (aCons (eC .non) (aCons (eTup aNil) aNil)))) sNext) (sRet (eTup (aCons (e2 oIx (eVar 4) (eC (.int 0))) (aCons (eVar 6) aNil))))))))
def m__law_good : List D → Sto → R D := mDef 9 5 b__law_good
def b__law_entry : SF := (sSeq (sFor (iAny (eVar 0)) (gNm 2) (sIf (tOfE (e2 oEq (e2 oIx (eVar 2) (eC (.int 0))) (eVar 1))) (sRet (eTup (aCons (e2 oIx (eVar 2) (eC (.int 1))) (aCons (e2 oIx (eVar 2) (eC (.int 2))) aNil)))) sNext)) (sRet (eC .non)))
def m__law_entry : List D → Sto → R D := mDef 3 2 b__law_entry
def b__law_same (self : List D → Sto → R D) : SF := (sSeq (sIf (tOfE (e2 oIsN (eVar 1) (eC .non))) (sRet (e2 oIsN (eVar 0) (eC .non))) sNext) (sSeq (sIf (tTru (eIsi .tup (eVar 1))) (sSeq (sIf (tOrF (tNotF (tTru (eIsi .tup (eVar 0)))) (tOfE (e2 oNe (eA oLen (aCons (eVar 0) aNil)) (eA oLen (aCons (eVar 1) aNil))))) (sRet (eC (.bl false))) sNext) (sSeq (sFor (iRng1D (aCons (eA oLen (aCons (eVar 1) aNil)) aNil)) (gNm 2) (sIf (tNotF (tTru (eA self (aCons (e2 oIx (eVar 0) (eVar 2)) (aCons (e2 oIx (eVar 1) (eVar 2)) aNil))))) (sRet (eC (.bl false))) sNext)) (sRet (eC (.bl true))))) sNext) (sSeq (sIf (tTru (eIsi .bl (eVar 1))) (sRet (eAndV (eIsi .bl (eVar 0)) (e2 oEq (eVar 0) (eVar 1)))) sNext) (sSeq (sIf (tTru (eIsi .int (eVar 1))) (sRet (eAndV (eIsi .int (eVar 0)) (eAndV (eNotV (eIsi .bl (eVar 0))) (e2 oEq (eVar 0) (eVar 1))))) sNext) (sRet (eAndV (eIsi .str (eVar 0)) (e2 oEq (eVar 0) (eVar 1))))))))
def m__law_same : Nat → List D → Sto → R D
  | 0 => fun _ _ => .bad
  | k + 1 => mDef 3 2 (b__law_same (m__law_same k))
def b_Cache_entry : SF := (sRet (eGet1 (eFld 6 [1] (eVar 0)) (eVar 1)))
def m_Cache_entry : List D → Sto → R D := mDef 2 2 b_Cache_entry
def b_words_of : SF := (sRet (eJoin [(eFmt (eA oLen (aCons (eVar 0) aNil))), (eC (.str [58])), (eFmt (eVar 0)), (eFmt (eVar 1))]))
def m_words_of : List D → Sto → R D := mDef 2 2 b_words_of
def b_Roster_is_revoked : SF := (sRet (e2 oIn (eVar 1) (eFld 2 [0] (eVar 0))))
def m_Roster_is_revoked : List D → Sto → R D := mDef 2 2 b_Roster_is_revoked
def b_Roster_counts : SF := (sSeq (sIf (tTru (eMeth [(0, m_Roster_is_revoked)] (eVar 0) (aCons (eVar 2) aNil))) (sRet (eC (.bl false))) sNext) (sRet (e2 oEq (eGet1 (eFld 3 [0] (eVar 0)) (eVar 1)) (eTup (aCons (eVar 2) (aCons (eVar 3) aNil))))))
def m_Roster_counts : List D → Sto → R D := mDef 4 4 b_Roster_counts
def b_good_claim : SF := (sSeq (sAsg (eMeth [(1, m_Cache_entry)] (eVar 0) (aCons (eVar 2) aNil)) (gNm 3)) (sSeq (sIf (tOfE (e2 oIsN (eVar 3) (eC .non))) (sRet (eC .non)) sNext) (sSeq (sAsg (eVar 3) (gTupF 2 (gsCons (gNm 4) (gsCons (gNm 5) gsNil)))) (sSeq (sAsg (eA m_words_of (aCons (eVar 2) (aCons (eVar 4) aNil))) (gNm 6)) (sSeq (sAsg (eDc [8, 9] (iAny (eVar 5)) (gTupF 2 (gsCons (gNm 8) (gsCons (gNm 9) gsNil))) (tTru (eMeth [(0, m_Roster_counts)] (eVar 1) (aCons (eVar 9) (aCons (eVar 8) (aCons (eVar 6) aNil))))) (eVar 8) (eC (.bl true))) (gNm 7)) (sRet (eIf (tOfE (e2 oGe (eA oLen (aCons (eVar 7) aNil)) (eFld 0 [0] (eVar 1)))) (eVar 4) (eC .non))))))))
def m_good_claim : List D → Sto → R D := mDef 10 3 b_good_claim
def b__law_kept : SF := (sSeq (sIf (tNotF (tTru (eA (m__law_same 8) (aCons (eMethX [(1, m_Cache_topics)] [4] (eVar 0) aNil) (aCons (eA oTuple (aCons (eLc [2] (iAny (eVar 1)) (gNm 2) tYesF (e2 oIx (eVar 2) (eC (.int 0)))) aNil)) aNil))))) (sRet (eC (.bl false))) sNext) (sSeq (sFor (iAny (eVar 1)) (gNm 2) (sIf (tNotF (tTru (eA (m__law_same 8) (aCons (eMeth [(1, m_Cache_entry)] (eVar 0) (aCons (e2 oIx (eVar 2) (eC (.int 0))) aNil)) (aCons (eTup (aCons (e2 oIx (eVar 2) (eC (.int 1))) (aCons (e2 oIx (eVar 2) (eC (.int 2))) aNil))) aNil))))) (sRet (eC (.bl false))) sNext)) (sRet (eC (.bl true)))))
def m__law_kept : List D → Sto → R D := mDef 3 2 b__law_kept
def b_look_up : SF := (sSeq (sFor (iAny (eVar 0)) (gNm 3) (sSeq (sAsg (eA m_good_claim (aCons (eVar 3) (aCons (eVar 1) (aCons (eVar 2) aNil)))) (gNm 4)) (sIf (tOfE (e2 oIsNotN (eVar 4) (eC .non))) (sSeq (sAsg (eA m_words_of (aCons (eVar 2) (aCons (eVar 4) aNil))) (gNm 5)) (sSeq (sAsg (eLc [7, 8] (iAny (e2 oIx (eMeth [(1, m_Cache_entry)] (eVar 3) (aCons (eVar 2) aNil)) (eC (.int 1)))) (gTupF 2 (gsCons (gNm 7) (gsCons (gNm 8) gsNil))) (tTru (eMeth [(0, m_Roster_counts)] (eVar 1) (aCons (eVar 8) (aCons (eVar 7) (aCons (eVar 5) aNil))))) (eTup (aCons (eVar 7) (aCons (eVar 8) aNil)))) (gNm 6)) (sRet (eTup (aCons (eVar 4) (aCons (eA oTuple (aCons (eVar 6) aNil)) aNil)))))) sNext))) (sRet (eC .non)))
def m_look_up : List D → Sto → R D := mDef 9 3 b_look_up
def b__law_looked : SF := (sSeq (sFor (iAny (eA m__law_topics aNil)) (gNm 6) (sSeq (sAsg (eC .non) (gNm 7)) (sSeq (sFor (iRng1D (aCons (eA oLen (aCons (eVar 0) aNil)) aNil)) (gNm 8) (sSeq (sAsg (eA m__law_good (aCons (eVar 3) (aCons (eVar 4) (aCons (eVar 5) (aCons (eVar 6) (aCons (eA m__law_entry (aCons (e2 oIx (eVar 1) (eVar 8)) (aCons (eVar 6) aNil))) aNil)))))) (gNm 10)) (sSeq (sIf (tAndF (tOfE (e2 oIsNotN (e2 oIx (eVar 10) (eC (.int 0))) (eC .non))) (tOfE (e2 oIsN (eVar 7) (eC .non)))) (sAsg (eVar 10) (gNm 7)) sNext) (sIf (tOrF (tNotF (tTru (eA (m__law_same 8) (aCons (eA m_good_claim (aCons (e2 oIx (eVar 0) (eVar 8)) (aCons (eVar 2) (aCons (eVar 6) aNil)))) (aCons (e2 oIx (eVar 10) (eC (.int 0))) aNil))))) (tNotF (tTru (eA m__law_kept (aCons (e2 oIx (eVar 0) (eVar 8)) (aCons (e2 oIx (eVar 1) (eVar 8)) aNil)))))) (sRet (eC (.bl false))) sNext)))) (sSeq (sAsg (eA oList (aCons (eVar 0) aNil)) (gNm 9)) (sSeq (sIf (tOrF (tNotF (tTru (eA (m__law_same 8) (aCons (eA m_look_up (aCons (eVar 9) (aCons (eVar 2) (aCons (eVar 6) aNil)))) (aCons (eVar 7) aNil))))) (tOfE (e2 oNe (eVar 9) (eVar 0)))) (sRet (eC (.bl false))) sNext) (sFor (iRng1D (aCons (eA oLen (aCons (eVar 0) aNil)) aNil)) (gNm 8) (sIf (tNotF (tTru (eA m__law_kept (aCons (e2 oIx (eVar 0) (eVar 8)) (aCons (e2 oIx (eVar 1) (eVar 8)) aNil))))) (sRet (eC (.bl false))) sNext))))))) (sRet (eC (.bl true))))
def m__law_looked : List D → Sto → R D := mDef 11 6 b__law_looked
def b_Cache_spoil : SF := (sSeq (sIf (tOfE (e2 oNotIn (eVar 1) (eFld 6 [1] (eVar 0)))) (sRet (eC (.bl false))) sNext) (sSeq (sSub (eFld 6 [1] (eVar 0)) (eVar 1) (eTup (aCons (eVar 2) (aCons (e2 oIx (e2 oIx (eFld 6 [1] (eVar 0)) (eVar 1)) (eC (.int 1))) aNil)))) (sRet (eC (.bl true)))))
def m_Cache_spoil : List D → Sto → R D := mDef 3 3 b_Cache_spoil
def b_Cache_lose : SF := (sSeq (sIf (tOfE (e2 oNotIn (eVar 1) (eFld 6 [1] (eVar 0)))) (sRet (eC (.bl false))) sNext) (sSeq (sDel (eFld 6 [1] (eVar 0)) (eVar 1)) (sRet (eC (.bl true)))))
def m_Cache_lose : List D → Sto → R D := mDef 2 2 b_Cache_lose
def b__law_spoilt : SF := (sSeq (sAsg (e2 oIx (eA m__law_topics aNil) (eA m__law_next (aCons (eVar 0) (aCons (eVar 1) (aCons (eC (.int 4)) aNil))))) (gNm 4)) (sSeq (sAsg (e2 oIx (eLst (aCons (eC (.str [120])) (aCons (eC (.str [])) (aCons (eC (.str [122])) aNil)))) (eA m__law_next (aCons (eVar 0) (aCons (eVar 1) (aCons (eC (.int 3)) aNil))))) (gNm 5)) (sSeq (sAsg (e2 oIsNotN (eA m__law_entry (aCons (eVar 3) (aCons (eVar 4) aNil))) (eC .non)) (gNm 6)) (sSeq (sAsg (eA m__law_next (aCons (eVar 0) (aCons (eVar 1) (aCons (eC (.int 5)) aNil)))) (gNm 7)) (sSeq (sIf (tOfE (e2 oEq (eVar 7) (eC (.int 4)))) (sSeq (sAsg (e2 oIx (eOrV (eA m__law_entry (aCons (eVar 3) (aCons (eVar 4) aNil))) (eTup (aCons (eVar 5) (aCons (eTup aNil) aNil)))) (eC (.int 1))) (gNm 8)) (sSeq (sAsg (e2 oAdd (eLc [13] (iAny (eVar 3)) (gNm 13) (tOfE (e2 oNe (e2 oIx (eVar 13) (eC (.int 0))) (eVar 4))) (eVar 13)) (eLst (aCons (eTup (aCons (eVar 4) (aCons (eVar 5) (aCons (eVar 8) aNil)))) aNil))) (gNm 9)) (sSeq (sAsg (eMeth [(1, m_Cache_put)] (eVar 2) (aCons (eVar 4) (aCons (eVar 5) (aCons (eVar 8) aNil)))) (gNm 10)) (sSeq (sAsg (eIf (tOfE (e2 oLt (eA oLen (aCons (eVar 9) aNil)) (eC (.int 4)))) (eC .non) (e2 oIx (e2 oIx (eVar 9) (eC (.int 0))) (eC (.int 0)))) (gNm 11)) (sRet (eIf (tTru (eA (m__law_same 8) (aCons (eVar 10) (aCons (eVar 11) aNil)))) (eSl (eVar 9) (oPart (eA oMax2 (aCons (eC (.int 0)) (aCons (e2 oSub (eA oLen (aCons (eVar 9) aNil)) (eC (.int 3))) aNil)))) oNoP) (eC .non))))))) sNext) (sSeq (sIf (tOfE (e2 oGt (eVar 7) (eC (.int 1)))) (sSeq (sAsg (eMeth [(1, m_Cache_spoil)] (eVar 2) (aCons (eVar 4) (aCons (eVar 5) aNil))) (gNm 12)) (sSeq (sAsg (eLst aNil) (gNm 9)) (sFor (iAny (eVar 3)) (gNm 13) (sExpr (eMt .lst mAppend (eVar 9) (aCons (e2 oIx (eLst (aCons (eVar 13) (aCons (eTup (aCons (eVar 4) (aCons (eVar 5) (aCons (e2 oIx (eVar 13) (eC (.int 2))) aNil)))) aNil))) (eA oInt (aCons (e2 oEq (e2 oIx (eVar 13) (eC (.int 0))) (eVar 4)) aNil))) aNil)))))) (sSeq (sAsg (eMeth [(1, m_Cache_lose)] (eVar 2) (aCons (eVar 4) aNil)) (gNm 12)) (sAsg (eLc [13] (iAny (eVar 3)) (gNm 13) (tOfE (e2 oNe (e2 oIx (eVar 13) (eC (.int 0))) (eVar 4))) (eVar 13)) (gNm 9)))) (sSeq (sIf (tOrF (tNotF (tTru (eIsi .bl (eVar 12)))) (tOfE (e2 oNe (eVar 12) (eVar 6)))) (sRet (eC .non)) sNext) (sRet (eVar 9)))))))))
def m__law_spoilt : List D → Sto → R D := mDef 14 4 b__law_spoilt
def b_law : SF := (sSeq (sAsg (eLst (aCons (eC (.int 0)) (aCons (eC (.int 0)) (aCons (eC (.int 1)) aNil)))) (gNm 1)) (sSeq (sAsg (e2 oAdd (eC (.int 1)) (eA m__law_next (aCons (eVar 1) (aCons (eVar 0) (aCons (eC (.int 3)) aNil))))) (gNm 2)) (sSeq (sAsg (eMake 0 m_Roster___init__ (aCons (eVar 2) aNil)) (gNm 3)) (sSeq (sAsg (eA m__law_houses (aCons (eVar 3) (aCons (eC (.int 5)) aNil))) (gNm 4)) (sSeq (sAsg (eLst aNil) (gNm 5)) (sSeq (sFor (iRng1D (aCons (eA m__law_next (aCons (eVar 1) (aCons (eVar 0) (aCons (eC (.int 20)) aNil)))) aNil)) (gNm 6) (sSeq (sAsg (e2 oIx (eVar 4) (eA m__law_next (aCons (eVar 1) (aCons (eVar 0) (aCons (eC (.int 5)) aNil))))) (gNm 10)) (sSeq (sAsg (e2 oIx (eA m__law_topics aNil) (eA m__law_next (aCons (eVar 1) (aCons (eVar 0) (aCons (eC (.int 3)) aNil))))) (gNm 12)) (sSeq (sAsg (e2 oIx (eLst (aCons (eC (.str [120])) (aCons (eC (.str [])) aNil))) (eA m__law_next (aCons (eVar 1) (aCons (eVar 0) (aCons (eC (.int 2)) aNil))))) (gNm 13)) (sExpr (eMt .lst mAppend (eVar 5) (aCons (eTup (aCons (eVar 10) (aCons (eMeth [(0, m_Roster_sign)] (eVar 3) (aCons (eVar 10) (aCons (eA m__law_words_of (aCons (eVar 12) (aCons (eVar 13) aNil))) aNil))) (aCons (eVar 12) (aCons (eVar 13) aNil))))) aNil))))))) (sSeq (sAsg (eLst aNil) (gNm 7)) (sSeq (sAsg (eLst aNil) (gNm 8)) (sSeq (sFor (iRng1D (aCons (eA m__law_next (aCons (eVar 1) (aCons (eVar 0) (aCons (eC (.int 4)) aNil)))) aNil)) (gNm 6) (sSeq (sAsg (eMake 1 m_Cache___init__ (aCons (eC (.int 3)) aNil)) (gNm 14)) (sSeq (sAsg (eLst aNil) (gNm 15)) (sSeq (sFor (iAny (e2 oIx (eLst (aCons (eSl (eA m__law_topics aNil) oNoP (oPart (eC (.int 3)))) (aCons (eRev (eA m__law_topics aNil) (oPart (eC (.int 2))) oNoP) aNil))) (eA m__law_next (aCons (eVar 1) (aCons (eVar 0) (aCons (eC (.int 2)) aNil)))))) (gNm 12) (sIf (tOfE (e2 oGt (eA m__law_next (aCons (eVar 1) (aCons (eVar 0) (aCons (eC (.int 4)) aNil)))) (eC (.int 0)))) (sSeq (sAsg (e2 oIx (eLst (aCons (eC (.str [120])) (aCons (eC (.str [])) aNil))) (eA m__law_next (aCons (eVar 1) (aCons (eVar 0) (aCons (eC (.int 2)) aNil))))) (gNm 13)) (sSeq (sAsg (eA m__law_vouchers (aCons (eVar 1) (aCons (eVar 0) (aCons (eVar 4) (aCons (eVar 5) aNil))))) (gNm 16)) (sSeq (sExpr (eMeth [(1, m_Cache_put)] (eVar 14) (aCons (eVar 12) (aCons (eVar 13) (aCons (eVar 16) aNil))))) (sExpr (eMt .lst mAppend (eVar 15) (aCons (eTup (aCons (eVar 12) (aCons (eVar 13) (aCons (eVar 16) aNil)))) aNil)))))) sNext)) (sSeq (sExpr (eMt .lst mAppend (eVar 7) (aCons (eVar 14) aNil))) (sExpr (eMt .lst mAppend (eVar 8) (aCons (eVar 15) aNil)))))))) (sSeq (sAsg (eLc [10] (iAny (eVar 4)) (gNm 10) (tOfE (e2 oEq (eA m__law_next (aCons (eVar 1) (aCons (eVar 0) (aCons (eC (.int 5)) aNil)))) (eC (.int 0)))) (eVar 10)) (gNm 9)) (sSeq (sFor (iAny (eVar 9)) (gNm 10) (sExpr (eMeth [(0, m_Roster_revoke)] (eVar 3) (aCons (eVar 10) aNil)))) (sSeq (sFor (iRng1D (aCons (eC (.int 3)) aNil)) (gNm 11) (sSeq (sIf (tNotF (tTru (eA m__law_looked (aCons (eVar 7) (aCons (eVar 8) (aCons (eVar 3) (aCons (eVar 5) (aCons (eVar 9) (aCons (eVar 2) aNil))))))))) (sRet (eC (.bl false))) sNext) (sFor (iRng1D (aCons (eA oLen (aCons (eVar 7) aNil)) aNil)) (gNm 6) (sIf (tOfE (e2 oEq (eA m__law_next (aCons (eVar 1) (aCons (eVar 0) (aCons (eC (.int 2)) aNil)))) (eC (.int 0)))) (sSeq (sAsg (eA m__law_spoilt (aCons (eVar 1) (aCons (eVar 0) (aCons (e2 oIx (eVar 7) (eVar 6)) (aCons (e2 oIx (eVar 8) (eVar 6)) aNil))))) (gNm 17)) (sSeq (sIf (tOfE (e2 oIsN (eVar 17) (eC .non))) (sRet (eC (.bl false))) sNext) (sSub (eVar 8) (eVar 6) (eVar 17)))) sNext)))) (sRet (eA m__law_looked (aCons (eVar 7) (aCons (eVar 8) (aCons (eVar 3) (aCons (eVar 5) (aCons (eVar 9) (aCons (eVar 2) aNil))))))))))))))))))))
def m_law : List D → Sto → R D := mDef 18 1 b_law

def top (i : Nat) : Stmt := PySem.Challenge.pw_truemill_k39_good_claims.main.body.getD i (.Pass ⟨0, 0, 0, 0⟩)
def inCls (j : Nat) : Stmt → Stmt
  | .ClassDef (body := b) .. => b.getD j (.Pass ⟨0, 0, 0, 0⟩)
  | s => s
abbrev s__law_next : Stmt := top 14
abbrev s_Roster___init__ : Stmt := inCls 0 (top 8)
abbrev s_Roster_add : Stmt := inCls 1 (top 8)
abbrev s__law_houses : Stmt := top 17
abbrev s__law_topics : Stmt := top 18
abbrev s_Roster_check_house : Stmt := inCls 3 (top 8)
abbrev s_Roster_sign : Stmt := inCls 4 (top 8)
abbrev s__law_words_of : Stmt := top 16
abbrev s_Cache___init__ : Stmt := inCls 0 (top 10)
abbrev s__law_vouchers : Stmt := top 19
abbrev s_Cache_topics : Stmt := inCls 5 (top 10)
abbrev s_Cache_put : Stmt := inCls 1 (top 10)
abbrev s_Roster_revoke : Stmt := inCls 5 (top 8)
abbrev s__law_good : Stmt := top 20
abbrev s__law_entry : Stmt := top 22
abbrev s__law_same : Stmt := top 15
abbrev s_Cache_entry : Stmt := inCls 2 (top 10)
abbrev s_words_of : Stmt := top 6
abbrev s_Roster_is_revoked : Stmt := inCls 6 (top 8)
abbrev s_Roster_counts : Stmt := inCls 7 (top 8)
abbrev s_good_claim : Stmt := top 11
abbrev s__law_kept : Stmt := top 21
abbrev s_look_up : Stmt := top 12
abbrev s__law_looked : Stmt := top 23
abbrev s_Cache_spoil : Stmt := inCls 4 (top 10)
abbrev s_Cache_lose : Stmt := inCls 3 (top 10)
abbrev s__law_spoilt : Stmt := top 24
abbrev s_law : Stmt := top 25
def dfn : List He.DefD := [
  ⟨("_law_next", none), "_law_next", "_law_next", defArgs s__law_next, defBody s__law_next, defScope s__law_next, [], []⟩,
  ⟨("Roster", some "__init__"), "__init__", "Roster.__init__", defArgs s_Roster___init__, defBody s_Roster___init__, defScope s_Roster___init__, [], []⟩,
  ⟨("Roster", some "add"), "add", "Roster.add", defArgs s_Roster_add, defBody s_Roster_add, defScope s_Roster_add, [], []⟩,
  ⟨("_law_houses", none), "_law_houses", "_law_houses", defArgs s__law_houses, defBody s__law_houses, defScope s__law_houses, [], []⟩,
  ⟨("_law_topics", none), "_law_topics", "_law_topics", defArgs s__law_topics, defBody s__law_topics, defScope s__law_topics, [], []⟩,
  ⟨("Roster", some "check_house"), "check_house", "Roster.check_house", defArgs s_Roster_check_house, defBody s_Roster_check_house, defScope s_Roster_check_house, [], []⟩,
  ⟨("Roster", some "sign"), "sign", "Roster.sign", defArgs s_Roster_sign, defBody s_Roster_sign, defScope s_Roster_sign, [], []⟩,
  ⟨("_law_words_of", none), "_law_words_of", "_law_words_of", defArgs s__law_words_of, defBody s__law_words_of, defScope s__law_words_of, [], []⟩,
  ⟨("Cache", some "__init__"), "__init__", "Cache.__init__", defArgs s_Cache___init__, defBody s_Cache___init__, defScope s_Cache___init__, [], []⟩,
  ⟨("_law_vouchers", none), "_law_vouchers", "_law_vouchers", defArgs s__law_vouchers, defBody s__law_vouchers, defScope s__law_vouchers, [], []⟩,
  ⟨("Cache", some "topics"), "topics", "Cache.topics", defArgs s_Cache_topics, defBody s_Cache_topics, defScope s_Cache_topics, [], []⟩,
  ⟨("Cache", some "put"), "put", "Cache.put", defArgs s_Cache_put, defBody s_Cache_put, defScope s_Cache_put, [], []⟩,
  ⟨("Roster", some "revoke"), "revoke", "Roster.revoke", defArgs s_Roster_revoke, defBody s_Roster_revoke, defScope s_Roster_revoke, [], []⟩,
  ⟨("_law_good", none), "_law_good", "_law_good", defArgs s__law_good, defBody s__law_good, defScope s__law_good, [], []⟩,
  ⟨("_law_entry", none), "_law_entry", "_law_entry", defArgs s__law_entry, defBody s__law_entry, defScope s__law_entry, [], []⟩,
  ⟨("_law_same", none), "_law_same", "_law_same", defArgs s__law_same, defBody s__law_same, defScope s__law_same, [], []⟩,
  ⟨("Cache", some "entry"), "entry", "Cache.entry", defArgs s_Cache_entry, defBody s_Cache_entry, defScope s_Cache_entry, [], []⟩,
  ⟨("words_of", none), "words_of", "words_of", defArgs s_words_of, defBody s_words_of, defScope s_words_of, [], []⟩,
  ⟨("Roster", some "is_revoked"), "is_revoked", "Roster.is_revoked", defArgs s_Roster_is_revoked, defBody s_Roster_is_revoked, defScope s_Roster_is_revoked, [], []⟩,
  ⟨("Roster", some "counts"), "counts", "Roster.counts", defArgs s_Roster_counts, defBody s_Roster_counts, defScope s_Roster_counts, [], []⟩,
  ⟨("good_claim", none), "good_claim", "good_claim", defArgs s_good_claim, defBody s_good_claim, defScope s_good_claim, [], []⟩,
  ⟨("_law_kept", none), "_law_kept", "_law_kept", defArgs s__law_kept, defBody s__law_kept, defScope s__law_kept, [], []⟩,
  ⟨("look_up", none), "look_up", "look_up", defArgs s_look_up, defBody s_look_up, defScope s_look_up, [], []⟩,
  ⟨("_law_looked", none), "_law_looked", "_law_looked", defArgs s__law_looked, defBody s__law_looked, defScope s__law_looked, [], []⟩,
  ⟨("Cache", some "spoil"), "spoil", "Cache.spoil", defArgs s_Cache_spoil, defBody s_Cache_spoil, defScope s_Cache_spoil, [], []⟩,
  ⟨("Cache", some "lose"), "lose", "Cache.lose", defArgs s_Cache_lose, defBody s_Cache_lose, defScope s_Cache_lose, [], []⟩,
  ⟨("_law_spoilt", none), "_law_spoilt", "_law_spoilt", defArgs s__law_spoilt, defBody s__law_spoilt, defScope s__law_spoilt, [], []⟩,
  ⟨("law", none), "law", "law", defArgs s_law, defBody s_law, defScope s_law, [], []⟩]
def dfa : List He.Fa := [.free "int", .free "len", .free "abs", .int "MOST_HOUSES" 20, .free "range", .free "str", .free "tuple", .free "set", .free "isinstance", .free "bool", .free "list", .free "max", .glo "_law_next", .glo "_law_houses", .glo "_law_topics", .glo "_law_words_of", .glo "_law_vouchers", .glo "_law_good", .glo "_law_entry", .glo "_law_same", .glo "words_of", .glo "good_claim", .glo "_law_kept", .glo "look_up", .glo "_law_looked", .glo "_law_spoilt", .glo "law", .glo "Roster", .cls "Roster", .mkr "Roster", .meth "Roster" "add", .meth "Roster" "check_house", .meth "Roster" "sign", .meth "Roster" "revoke", .meth "Roster" "is_revoked", .meth "Roster" "counts", .noat "Roster" "need", .noat "Roster" "striking", .noat "Roster" "revoked", .noat "Roster" "signatures", .noat "Roster" "topics", .glo "Cache", .cls "Cache", .mkr "Cache", .meth "Cache" "put", .meth "Cache" "entry", .meth "Cache" "lose", .meth "Cache" "spoil", .meth "Cache" "topics", .noat "Cache" "size", .noat "Cache" "kept"]

/-- what the head tells -/
structure Fx (K : PySem.W.Frag) (mg : Str → Option Value) : Prop where
  says : He.SaysD dfa dfn K
  glo : ∀ x, (He.Fa.glo x).ok K = true → mg x = some (.ref (He.ga K x))
  free : ∀ x, (He.Fa.free x).ok K = true → mg x = none
  int : ∀ x i, (He.Fa.int x i).ok K = true → ∃ t, mg x = some (.int i t)
  str : ∀ x z, (He.Fa.str x z).ok K = true → ∃ t, mg x = some (.str z t)
section
variable {P : Program} {w : World} {K : PySem.W.Frag} {mg : Str → Option Value} {base : Heap}
theorem Fx.fr (e : Fx K mg) (i : Nat) {x : Str} (h : dfa[i]? = some (.free x)) : mg x = none := e.free x (e.says.fact i h)
theorem Fx.gl (e : Fx K mg) (i : Nat) {x : Str} (h : dfa[i]? = some (.glo x)) : mg x = some (.ref (He.ga K x)) := e.glo x (e.says.fact i h)
theorem Fx.gi (e : Fx K mg) (i : Nat) {x : Str} {j : Int} (h : dfa[i]? = some (.int x j)) : ∃ t, mg x = some (.int j t) := e.int x j (e.says.fact i h)
theorem Fx.gs (e : Fx K mg) (i : Nat) {x z : Str} (h : dfa[i]? = some (.str x z)) : ∃ t, mg x = some (.str z t) := e.str x z (e.says.fact i h)
def gg (K : PySem.W.Frag) : G := ⟨K, [He.ga K "Roster", He.ga K "Cache"], ["need", "striking", "revoked", "signatures", "topics", "size", "kept"], by decide +kernel⟩

theorem nd_Cache : (("Cache" : Str) == ("__debug__" : Str)) = false := by decide +kernel
theorem nd_MOST_HOUSES : (("MOST_HOUSES" : Str) == ("__debug__" : Str)) = false := by decide +kernel
theorem nd_Roster : (("Roster" : Str) == ("__debug__" : Str)) = false := by decide +kernel
theorem nd__law_actual : (("_law_actual" : Str) == ("__debug__" : Str)) = false := by decide +kernel
theorem nd__law_after : (("_law_after" : Str) == ("__debug__" : Str)) = false := by decide +kernel
theorem nd__law_answer : (("_law_answer" : Str) == ("__debug__" : Str)) = false := by decide +kernel
theorem nd__law_cache : (("_law_cache" : Str) == ("__debug__" : Str)) = false := by decide +kernel
theorem nd__law_caches : (("_law_caches" : Str) == ("__debug__" : Str)) = false := by decide +kernel
theorem nd__law_cell : (("_law_cell" : Str) == ("__debug__" : Str)) = false := by decide +kernel
theorem nd__law_choice : (("_law_choice" : Str) == ("__debug__" : Str)) = false := by decide +kernel
theorem nd__law_claim : (("_law_claim" : Str) == ("__debug__" : Str)) = false := by decide +kernel
theorem nd__law_due : (("_law_due" : Str) == ("__debug__" : Str)) = false := by decide +kernel
theorem nd__law_entries : (("_law_entries" : Str) == ("__debug__" : Str)) = false := by decide +kernel
theorem nd__law_entry : (("_law_entry" : Str) == ("__debug__" : Str)) = false := by decide +kernel
theorem nd__law_entry_here : (("_law_entry_here" : Str) == ("__debug__" : Str)) = false := by decide +kernel
theorem nd__law_first : (("_law_first" : Str) == ("__debug__" : Str)) = false := by decide +kernel
theorem nd__law_found : (("_law_found" : Str) == ("__debug__" : Str)) = false := by decide +kernel
theorem nd__law_gone : (("_law_gone" : Str) == ("__debug__" : Str)) = false := by decide +kernel
theorem nd__law_good : (("_law_good" : Str) == ("__debug__" : Str)) = false := by decide +kernel
theorem nd__law_handed : (("_law_handed" : Str) == ("__debug__" : Str)) = false := by decide +kernel
theorem nd__law_house : (("_law_house" : Str) == ("__debug__" : Str)) = false := by decide +kernel
theorem nd__law_houses : (("_law_houses" : Str) == ("__debug__" : Str)) = false := by decide +kernel
theorem nd__law_houses_here : (("_law_houses_here" : Str) == ("__debug__" : Str)) = false := by decide +kernel
theorem nd__law_k : (("_law_k" : Str) == ("__debug__" : Str)) = false := by decide +kernel
theorem nd__law_kept : (("_law_kept" : Str) == ("__debug__" : Str)) = false := by decide +kernel
theorem nd__law_kept_here : (("_law_kept_here" : Str) == ("__debug__" : Str)) = false := by decide +kernel
theorem nd__law_looked : (("_law_looked" : Str) == ("__debug__" : Str)) = false := by decide +kernel
theorem nd__law_many : (("_law_many" : Str) == ("__debug__" : Str)) = false := by decide +kernel
theorem nd__law_name : (("_law_name" : Str) == ("__debug__" : Str)) = false := by decide +kernel
theorem nd__law_names : (("_law_names" : Str) == ("__debug__" : Str)) = false := by decide +kernel
theorem nd__law_need : (("_law_need" : Str) == ("__debug__" : Str)) = false := by decide +kernel
theorem nd__law_next : (("_law_next" : Str) == ("__debug__" : Str)) = false := by decide +kernel
theorem nd__law_roster : (("_law_roster" : Str) == ("__debug__" : Str)) = false := by decide +kernel
theorem nd__law_row : (("_law_row" : Str) == ("__debug__" : Str)) = false := by decide +kernel
theorem nd__law_same : (("_law_same" : Str) == ("__debug__" : Str)) = false := by decide +kernel
theorem nd__law_script : (("_law_script" : Str) == ("__debug__" : Str)) = false := by decide +kernel
theorem nd__law_signed : (("_law_signed" : Str) == ("__debug__" : Str)) = false := by decide +kernel
theorem nd__law_spoilt : (("_law_spoilt" : Str) == ("__debug__" : Str)) = false := by decide +kernel
theorem nd__law_state : (("_law_state" : Str) == ("__debug__" : Str)) = false := by decide +kernel
theorem nd__law_there : (("_law_there" : Str) == ("__debug__" : Str)) = false := by decide +kernel
theorem nd__law_told : (("_law_told" : Str) == ("__debug__" : Str)) = false := by decide +kernel
theorem nd__law_topic : (("_law_topic" : Str) == ("__debug__" : Str)) = false := by decide +kernel
theorem nd__law_topics : (("_law_topics" : Str) == ("__debug__" : Str)) = false := by decide +kernel
theorem nd__law_voucher : (("_law_voucher" : Str) == ("__debug__" : Str)) = false := by decide +kernel
theorem nd__law_vouchers : (("_law_vouchers" : Str) == ("__debug__" : Str)) = false := by decide +kernel
theorem nd__law_vouchers_here : (("_law_vouchers_here" : Str) == ("__debug__" : Str)) = false := by decide +kernel
theorem nd__law_words : (("_law_words" : Str) == ("__debug__" : Str)) = false := by decide +kernel
theorem nd__law_words_of : (("_law_words_of" : Str) == ("__debug__" : Str)) = false := by decide +kernel
theorem nd_cache : (("cache" : Str) == ("__debug__" : Str)) = false := by decide +kernel
theorem nd_caches : (("caches" : Str) == ("__debug__" : Str)) = false := by decide +kernel
theorem nd_claim : (("claim" : Str) == ("__debug__" : Str)) = false := by decide +kernel
theorem nd_found : (("found" : Str) == ("__debug__" : Str)) = false := by decide +kernel
theorem nd_good_claim : (("good_claim" : Str) == ("__debug__" : Str)) = false := by decide +kernel
theorem nd_house : (("house" : Str) == ("__debug__" : Str)) = false := by decide +kernel
theorem nd_houses : (("houses" : Str) == ("__debug__" : Str)) = false := by decide +kernel
theorem nd_look_up : (("look_up" : Str) == ("__debug__" : Str)) = false := by decide +kernel
theorem nd_mark : (("mark" : Str) == ("__debug__" : Str)) = false := by decide +kernel
theorem nd_need : (("need" : Str) == ("__debug__" : Str)) = false := by decide +kernel
theorem nd_oldest : (("oldest" : Str) == ("__debug__" : Str)) = false := by decide +kernel
theorem nd_roster : (("roster" : Str) == ("__debug__" : Str)) = false := by decide +kernel
theorem nd_self : (("self" : Str) == ("__debug__" : Str)) = false := by decide +kernel
theorem nd_size : (("size" : Str) == ("__debug__" : Str)) = false := by decide +kernel
theorem nd_topic : (("topic" : Str) == ("__debug__" : Str)) = false := by decide +kernel
theorem nd_vouchers : (("vouchers" : Str) == ("__debug__" : Str)) = false := by decide +kernel
theorem nd_words : (("words" : Str) == ("__debug__" : Str)) = false := by decide +kernel
theorem nd_words_of : (("words_of" : Str) == ("__debug__" : Str)) = false := by decide +kernel
theorem fld_need (e : Fx K mg) : FldD (gg K) 0 "need" [0] := ⟨rfl, fun c C hc h => by
  by_cases h0 : c = 0
  · subst h0
    cases h
    exact ⟨He.cls_ok (e.says.fact 28), He.noat_ok (e.says.fact 36)⟩
  exact absurd hc (by simp [h0])⟩
theorem fld_striking (e : Fx K mg) : FldD (gg K) 1 "striking" [0] := ⟨rfl, fun c C hc h => by
  by_cases h0 : c = 0
  · subst h0
    cases h
    exact ⟨He.cls_ok (e.says.fact 28), He.noat_ok (e.says.fact 37)⟩
  exact absurd hc (by simp [h0])⟩
theorem fld_revoked (e : Fx K mg) : FldD (gg K) 2 "revoked" [0] := ⟨rfl, fun c C hc h => by
  by_cases h0 : c = 0
  · subst h0
    cases h
    exact ⟨He.cls_ok (e.says.fact 28), He.noat_ok (e.says.fact 38)⟩
  exact absurd hc (by simp [h0])⟩
theorem fld_signatures (e : Fx K mg) : FldD (gg K) 3 "signatures" [0] := ⟨rfl, fun c C hc h => by
  by_cases h0 : c = 0
  · subst h0
    cases h
    exact ⟨He.cls_ok (e.says.fact 28), He.noat_ok (e.says.fact 39)⟩
  exact absurd hc (by simp [h0])⟩
theorem fld_topics (e : Fx K mg) : FldD (gg K) 4 "topics" [0] := ⟨rfl, fun c C hc h => by
  by_cases h0 : c = 0
  · subst h0
    cases h
    exact ⟨He.cls_ok (e.says.fact 28), He.noat_ok (e.says.fact 40)⟩
  exact absurd hc (by simp [h0])⟩
theorem fld_size (e : Fx K mg) : FldD (gg K) 5 "size" [1] := ⟨rfl, fun c C hc h => by
  by_cases h1 : c = 1
  · subst h1
    cases h
    exact ⟨He.cls_ok (e.says.fact 42), He.noat_ok (e.says.fact 49)⟩
  exact absurd hc (by simp [h1])⟩
theorem fld_kept (e : Fx K mg) : FldD (gg K) 6 "kept" [1] := ⟨rfl, fun c C hc h => by
  by_cases h1 : c = 1
  · subst h1
    cases h
    exact ⟨He.cls_ok (e.says.fact 42), He.noat_ok (e.says.fact 50)⟩
  exact absurd hc (by simp [h1])⟩
theorem nf___init__ : ("__init__" : Str) ∉ (gg K).fn := by show _ ∉ [("need" : Str), ("striking" : Str), ("revoked" : Str), ("signatures" : Str), ("topics" : Str), ("size" : Str), ("kept" : Str)]; decide +kernel
theorem nf_add : ("add" : Str) ∉ (gg K).fn := by show _ ∉ [("need" : Str), ("striking" : Str), ("revoked" : Str), ("signatures" : Str), ("topics" : Str), ("size" : Str), ("kept" : Str)]; decide +kernel
theorem nf_check_house : ("check_house" : Str) ∉ (gg K).fn := by show _ ∉ [("need" : Str), ("striking" : Str), ("revoked" : Str), ("signatures" : Str), ("topics" : Str), ("size" : Str), ("kept" : Str)]; decide +kernel
theorem nf_sign : ("sign" : Str) ∉ (gg K).fn := by show _ ∉ [("need" : Str), ("striking" : Str), ("revoked" : Str), ("signatures" : Str), ("topics" : Str), ("size" : Str), ("kept" : Str)]; decide +kernel
theorem nf_revoke : ("revoke" : Str) ∉ (gg K).fn := by show _ ∉ [("need" : Str), ("striking" : Str), ("revoked" : Str), ("signatures" : Str), ("topics" : Str), ("size" : Str), ("kept" : Str)]; decide +kernel
theorem nf_is_revoked : ("is_revoked" : Str) ∉ (gg K).fn := by show _ ∉ [("need" : Str), ("striking" : Str), ("revoked" : Str), ("signatures" : Str), ("topics" : Str), ("size" : Str), ("kept" : Str)]; decide +kernel
theorem nf_counts : ("counts" : Str) ∉ (gg K).fn := by show _ ∉ [("need" : Str), ("striking" : Str), ("revoked" : Str), ("signatures" : Str), ("topics" : Str), ("size" : Str), ("kept" : Str)]; decide +kernel
theorem nf_put : ("put" : Str) ∉ (gg K).fn := by show _ ∉ [("need" : Str), ("striking" : Str), ("revoked" : Str), ("signatures" : Str), ("topics" : Str), ("size" : Str), ("kept" : Str)]; decide +kernel
theorem nf_entry : ("entry" : Str) ∉ (gg K).fn := by show _ ∉ [("need" : Str), ("striking" : Str), ("revoked" : Str), ("signatures" : Str), ("topics" : Str), ("size" : Str), ("kept" : Str)]; decide +kernel
theorem nf_lose : ("lose" : Str) ∉ (gg K).fn := by show _ ∉ [("need" : Str), ("striking" : Str), ("revoked" : Str), ("signatures" : Str), ("topics" : Str), ("size" : Str), ("kept" : Str)]; decide +kernel
theorem nf_spoil : ("spoil" : Str) ∉ (gg K).fn := by show _ ∉ [("need" : Str), ("striking" : Str), ("revoked" : Str), ("signatures" : Str), ("topics" : Str), ("size" : Str), ("kept" : Str)]; decide +kernel
theorem nf_topics : ∀ i, (gg K).fn[i]? = some ("topics" : Str) → ([4] : List Nat).contains i = true := fun i h => by
  have e := L2.nd_ix (gg K).fnd h (show (gg K).fn[4]? = some ("topics" : Str) from rfl)
  subst e
  rfl
theorem sc__law_next : FnScope (["_law_state", "_law_script", "_law_many", "_law_cell", "_law_answer"] : List Str) (["_law_state", "_law_script", "_law_many"] : List Str) (defScope s__law_next) := ⟨rfl, rfl, rfl, by decide +kernel, rfl, by decide +kernel, by decide +kernel⟩
theorem ok__law_next (e : Fx K mg) : FnD P w mg base (gg K) 1 (He.ga K "_law_next") 3 m__law_next := by
  obtain ⟨fd, F⟩ := e.says.def_ 0 rfl
  have hb := FunD.bindsN (ps := (["_law_state", "_law_script", "_law_many"] : List Str)) F fun _ _ _ _ _ _ us hl => match us, hl with | [_, _, _], _ => rfl
  have hN : ((["_law_state", "_law_script", "_law_many", "_law_cell", "_law_answer"] : List Str)).Nodup := by decide +kernel
  exact fn_mkD (k := 0) F sc__law_next hb fun _ _ _ _ _ _ => (dss_cons (ds_if (dt_gt (de_ix (de_var 0 (hd := nd__law_state)) de_int) de_int) (dss_cons (ds_set (i := 4) hN (de_mod (de_int1 (e.fr 0 rfl) (da_cons (de_ix (de_var 0 (hd := nd__law_state)) de_int) da_nil)) (de_var 2 (hd := nd__law_many)))) (dss_cons (ds_sub (de_var 0 (hd := nd__law_state)) de_int (de_fdiv (de_int1 (e.fr 0 rfl) (da_cons (de_ix (de_var 0 (hd := nd__law_state)) de_int) da_nil)) (de_var 2 (hd := nd__law_many)))) (dss_one (ds_ret (de_var 4 (hd := nd__law_answer)))))) dss_nil) (dss_cons (ds_set (i := 3) hN de_int) (dss_cons (ds_if (dt_lt (de_ix (de_var 0 (hd := nd__law_state)) de_int) (de_len (e.fr 1 rfl) (da_cons (de_var 1 (hd := nd__law_script)) da_nil))) (dss_one (ds_set (i := 3) hN (de_abs (e.fr 2 rfl) (da_cons (de_int1 (e.fr 0 rfl) (da_cons (de_ix (de_var 1 (hd := nd__law_script)) (de_ix (de_var 0 (hd := nd__law_state)) de_int)) da_nil)) da_nil)))) dss_nil) (dss_cons (ds_sub (de_var 0 (hd := nd__law_state)) de_int (de_add (de_ix (de_var 0 (hd := nd__law_state)) de_int) de_int)) (dss_cons (ds_if (dt_ge (de_var 3 (hd := nd__law_cell)) (de_pow de_int de_int)) (dss_cons (ds_sub (de_var 0 (hd := nd__law_state)) de_int (de_fdiv (de_var 3 (hd := nd__law_cell)) (de_var 2 (hd := nd__law_many)))) (dss_one (ds_ret (de_mod (de_int1 (e.fr 0 rfl) (da_cons (de_var 3 (hd := nd__law_cell)) da_nil)) (de_var 2 (hd := nd__law_many)))))) dss_nil) (dss_cons (ds_sub (de_var 0 (hd := nd__law_state)) de_int (de_mod (de_int1 (e.fr 0 rfl) (da_cons (de_add (de_add (de_mul (de_ix (de_var 0 (hd := nd__law_state)) de_int) de_int) (de_mul (de_var 3 (hd := nd__law_cell)) de_int)) de_int) da_nil)) de_int)) (dss_one (ds_ret (de_mod (de_int1 (e.fr 0 rfl) (da_cons (de_add (de_fdiv (de_ix (de_var 0 (hd := nd__law_state)) de_int) de_int) (de_fdiv (de_mul (de_ix (de_var 0 (hd := nd__law_state)) de_int) (de_ix (de_var 0 (hd := nd__law_state)) de_int)) de_int)) da_nil)) (de_var 2 (hd := nd__law_many)))))))))))
theorem fg__law_next (e : Fx K mg) : FnG P w mg base (gg K) 1 "_law_next" 3 m__law_next := ⟨_, e.gl 12 rfl, ok__law_next e⟩
theorem sc_Roster___init__ : FnScope (["self", "need"] : List Str) (["self", "need"] : List Str) (defScope s_Roster___init__) := ⟨rfl, rfl, rfl, by decide +kernel, rfl, by decide +kernel, by decide +kernel⟩
theorem ok_Roster___init__ (e : Fx K mg) : FnD P w mg base (gg K) 1 (He.ma K (He.ga K "Roster") "__init__") 2 m_Roster___init__ := by
  obtain ⟨fd, F⟩ := e.says.def_ 1 rfl
  have hb := FunD.bindsN (ps := (["self", "need"] : List Str)) F fun _ _ _ _ _ _ us hl => match us, hl with | [_, _], _ => rfl
  have hN : ((["self", "need"] : List Str)).Nodup := by decide +kernel
  exact fn_mkD (k := 0) F sc_Roster___init__ hb fun _ _ _ _ _ _ => (dss_cons (ds_fld (fld_need e) (de_var 0 (hd := nd_self)) (de_var 1 (hd := nd_need))) (dss_cons (ds_fld (fld_striking e) (de_var 0 (hd := nd_self)) de_dict0) (dss_cons (ds_fld (fld_revoked e) (de_var 0 (hd := nd_self)) de_dict0) (dss_cons (ds_fld (fld_signatures e) (de_var 0 (hd := nd_self)) de_dict0) (dss_one (ds_fld (fld_topics e) (de_var 0 (hd := nd_self)) de_dict0))))))
theorem mk_Roster (e : Fx K mg) : MakeD P w mg base (gg K) 1 0 "Roster" 1 m_Roster___init__ := ⟨_, _, e.gl 27 rfl, rfl, He.mkr_ok (e.says.fact 29), ok_Roster___init__ e⟩
theorem sc_Roster_add : FnScope (["self", "house"] : List Str) (["self", "house"] : List Str) (defScope s_Roster_add) := ⟨rfl, rfl, rfl, by decide +kernel, rfl, by decide +kernel, by decide +kernel⟩
theorem ok_Roster_add (e : Fx K mg) : FnD P w mg base (gg K) 1 (He.ma K (He.ga K "Roster") "add") 2 m_Roster_add := by
  obtain ⟨fd, F⟩ := e.says.def_ 2 rfl
  have hb := FunD.bindsN (ps := (["self", "house"] : List Str)) F fun _ _ _ _ _ _ us hl => match us, hl with | [_, _], _ => rfl
  have hN : ((["self", "house"] : List Str)).Nodup := by decide +kernel
  exact fn_mkD (k := 0) F sc_Roster_add hb fun _ _ _ _ _ _ => (dss_cons (ds_if (dt_in (de_var 1 (hd := nd_house)) (de_fld (fld_striking e) (de_var 0 (hd := nd_self)))) (dss_one ds_never) dss_nil) (dss_cons (ds_if (dt_ge (de_len (e.fr 1 rfl) (da_cons (de_fld (fld_striking e) (de_var 0 (hd := nd_self))) da_nil)) (de_globI (e.gi 3 rfl) (hd := nd_MOST_HOUSES))) (dss_one ds_never) dss_nil) (dss_one (ds_sub (de_fld (fld_striking e) (de_var 0 (hd := nd_self))) (de_var 1 (hd := nd_house)) de_int))))
theorem mt_add (e : Fx K mg) {lv : Nat} (hl : 1 ≤ lv) : ∀ c mm, List.lookup c ([(0, m_Roster_add)] : MTab) = some mm → ∃ j, j ≤ lv ∧ MethD P w mg base (gg K) j c "add" 1 mm := fun c mm h => by
  by_cases h0 : c = 0
  · subst h0
    cases h
    exact ⟨1, Nat.le_trans (by decide) hl, ⟨fun C hC => by cases hC; exact ⟨He.cls_ok (e.says.fact 28), _, He.meth_ok (e.says.fact 30), ok_Roster_add e⟩⟩⟩
  simp [List.lookup, show (c == 0) = false from by simpa using h0] at h
theorem sc__law_houses : FnScope (["_law_roster", "_law_many", "_law_names", "_law_name", "_law_k"] : List Str) (["_law_roster", "_law_many"] : List Str) (defScope s__law_houses) := ⟨rfl, rfl, rfl, by decide +kernel, rfl, by decide +kernel, by decide +kernel⟩
theorem ok__law_houses (e : Fx K mg) : FnD P w mg base (gg K) 2 (He.ga K "_law_houses") 2 m__law_houses := by
  obtain ⟨fd, F⟩ := e.says.def_ 3 rfl
  have hb := FunD.bindsN (ps := (["_law_roster", "_law_many"] : List Str)) F fun _ _ _ _ _ _ us hl => match us, hl with | [_, _], _ => rfl
  have hN : ((["_law_roster", "_law_many", "_law_names", "_law_name", "_law_k"] : List Str)).Nodup := by decide +kernel
  exact fn_mkD (k := 1) F sc__law_houses hb fun _ _ _ _ _ _ => (dss_cons (ds_setLc (i := 2) hN rfl rfl (sw_true rfl rfl rfl rfl) (own := [("_law_k", 4)]) (by show blkC (["_law_roster", "_law_many", "_law_names", "_law_name", "_law_k"] : List Str) (defScope s__law_houses) _ _ = true; decide +kernel) (by decide) (di_range1 (e.fr 4 rfl) (da_cons (de_var 1 (hd := nd__law_many)) da_nil)) (fun _ _ _ _ _ => (dg_name (i := 4) hN)) (fun _ _ _ _ _ => dts_nil) (fun _ _ _ _ _ => (de_add (de_str [104] (by kernel_rfl)) (de_str1 (e.fr 5 rfl) (da_cons (de_var 4 (hd := nd__law_k)) da_nil))))) (dss_cons (ds_for (passes_of rfl) (di_any (de_var 2 (hd := nd__law_names))) (dg_name (i := 3) hN) (dss_one (ds_expr (de_meth (de_var 0 (hd := nd__law_roster)) (mt_add e (P := P) (w := w) (base := base) (by decide)) nf_add (dan_cons (de_var 3 (hd := nd__law_name)) dan_nil))))) (dss_one (ds_ret (de_var 2 (hd := nd__law_names))))))
theorem fg__law_houses (e : Fx K mg) : FnG P w mg base (gg K) 2 "_law_houses" 2 m__law_houses := ⟨_, e.gl 13 rfl, ok__law_houses e⟩
theorem sc__law_topics : FnScope ([] : List Str) ([] : List Str) (defScope s__law_topics) := ⟨rfl, rfl, rfl, by decide +kernel, rfl, by decide +kernel, by decide +kernel⟩
theorem ok__law_topics (e : Fx K mg) : FnD P w mg base (gg K) 1 (He.ga K "_law_topics") 0 m__law_topics := by
  obtain ⟨fd, F⟩ := e.says.def_ 4 rfl
  have hb := FunD.bindsN (ps := ([] : List Str)) F fun _ _ _ _ _ _ us hl => match us, hl with | [], _ => rfl
  have hN : (([] : List Str)).Nodup := by decide +kernel
  exact fn_mkD (k := 0) F sc__law_topics hb fun _ _ _ _ _ _ => (dss_one (ds_ret (de_lst (da_cons (de_str [116] (by kernel_rfl)) (da_cons (de_str [109, 97, 100, 101, 10] (by kernel_rfl)) (da_cons (de_str [116, 111, 112, 105, 99, 32, 49, 50] (by kernel_rfl)) (da_cons (de_str [] (by kernel_rfl)) da_nil)))))))
theorem fg__law_topics (e : Fx K mg) : FnG P w mg base (gg K) 1 "_law_topics" 0 m__law_topics := ⟨_, e.gl 14 rfl, ok__law_topics e⟩
theorem sc_Roster_check_house : FnScope (["self", "house"] : List Str) (["self", "house"] : List Str) (defScope s_Roster_check_house) := ⟨rfl, rfl, rfl, by decide +kernel, rfl, by decide +kernel, by decide +kernel⟩
theorem ok_Roster_check_house (e : Fx K mg) : FnD P w mg base (gg K) 1 (He.ma K (He.ga K "Roster") "check_house") 2 m_Roster_check_house := by
  obtain ⟨fd, F⟩ := e.says.def_ 5 rfl
  have hb := FunD.bindsN (ps := (["self", "house"] : List Str)) F fun _ _ _ _ _ _ us hl => match us, hl with | [_, _], _ => rfl
  have hN : ((["self", "house"] : List Str)).Nodup := by decide +kernel
  exact fn_mkD (k := 0) F sc_Roster_check_house hb fun _ _ _ _ _ _ => (dss_cons (ds_if (dt_notIn (de_var 1 (hd := nd_house)) (de_fld (fld_striking e) (de_var 0 (hd := nd_self)))) (dss_one ds_never) dss_nil) (dss_one (ds_if (dt_in (de_var 1 (hd := nd_house)) (de_fld (fld_revoked e) (de_var 0 (hd := nd_self)))) (dss_one ds_never) dss_nil)))
theorem mt_check_house (e : Fx K mg) {lv : Nat} (hl : 1 ≤ lv) : ∀ c mm, List.lookup c ([(0, m_Roster_check_house)] : MTab) = some mm → ∃ j, j ≤ lv ∧ MethD P w mg base (gg K) j c "check_house" 1 mm := fun c mm h => by
  by_cases h0 : c = 0
  · subst h0
    cases h
    exact ⟨1, Nat.le_trans (by decide) hl, ⟨fun C hC => by cases hC; exact ⟨He.cls_ok (e.says.fact 28), _, He.meth_ok (e.says.fact 31), ok_Roster_check_house e⟩⟩⟩
  simp [List.lookup, show (c == 0) = false from by simpa using h0] at h
theorem sc_Roster_sign : FnScope (["self", "house", "words", "mark"] : List Str) (["self", "house", "words"] : List Str) (defScope s_Roster_sign) := ⟨rfl, rfl, rfl, by decide +kernel, rfl, by decide +kernel, by decide +kernel⟩
theorem ok_Roster_sign (e : Fx K mg) : FnD P w mg base (gg K) 2 (He.ma K (He.ga K "Roster") "sign") 3 m_Roster_sign := by
  obtain ⟨fd, F⟩ := e.says.def_ 6 rfl
  have hb := FunD.bindsN (ps := (["self", "house", "words"] : List Str)) F fun _ _ _ _ _ _ us hl => match us, hl with | [_, _, _], _ => rfl
  have hN : ((["self", "house", "words", "mark"] : List Str)).Nodup := by decide +kernel
  exact fn_mkD (k := 1) F sc_Roster_sign hb fun _ _ _ _ _ _ => (dss_cons (ds_expr (de_meth (de_var 0 (hd := nd_self)) (mt_check_house e (P := P) (w := w) (base := base) (by decide)) nf_check_house (dan_cons (de_var 1 (hd := nd_house)) dan_nil))) (dss_cons (ds_set (i := 3) hN (de_join (.cons (de_fmt (de_var 1 (hd := nd_house))) (.cons (de_str [45] (by kernel_rfl)) (.cons (de_fmt (de_add (de_len (e.fr 1 rfl) (da_cons (de_fld (fld_signatures e) (de_var 0 (hd := nd_self))) da_nil)) de_int)) .nil))))) (dss_cons (ds_sub (de_fld (fld_signatures e) (de_var 0 (hd := nd_self))) (de_var 3 (hd := nd_mark)) (de_tup (da_cons (de_var 1 (hd := nd_house)) (da_cons (de_var 2 (hd := nd_words)) da_nil)))) (dss_one (ds_ret (de_var 3 (hd := nd_mark)))))))
theorem mt_sign (e : Fx K mg) {lv : Nat} (hl : 2 ≤ lv) : ∀ c mm, List.lookup c ([(0, m_Roster_sign)] : MTab) = some mm → ∃ j, j ≤ lv ∧ MethD P w mg base (gg K) j c "sign" 2 mm := fun c mm h => by
  by_cases h0 : c = 0
  · subst h0
    cases h
    exact ⟨2, Nat.le_trans (by decide) hl, ⟨fun C hC => by cases hC; exact ⟨He.cls_ok (e.says.fact 28), _, He.meth_ok (e.says.fact 32), ok_Roster_sign e⟩⟩⟩
  simp [List.lookup, show (c == 0) = false from by simpa using h0] at h
theorem sc__law_words_of : FnScope (["_law_topic", "_law_claim"] : List Str) (["_law_topic", "_law_claim"] : List Str) (defScope s__law_words_of) := ⟨rfl, rfl, rfl, by decide +kernel, rfl, by decide +kernel, by decide +kernel⟩
theorem ok__law_words_of (e : Fx K mg) : FnD P w mg base (gg K) 1 (He.ga K "_law_words_of") 2 m__law_words_of := by
  obtain ⟨fd, F⟩ := e.says.def_ 7 rfl
  have hb := FunD.bindsN (ps := (["_law_topic", "_law_claim"] : List Str)) F fun _ _ _ _ _ _ us hl => match us, hl with | [_, _], _ => rfl
  have hN : ((["_law_topic", "_law_claim"] : List Str)).Nodup := by decide +kernel
  exact fn_mkD (k := 0) F sc__law_words_of hb fun _ _ _ _ _ _ => (dss_one (ds_ret (de_add (de_add (de_add (de_str1 (e.fr 5 rfl) (da_cons (de_len (e.fr 1 rfl) (da_cons (de_var 0 (hd := nd__law_topic)) da_nil)) da_nil)) (de_str [58] (by kernel_rfl))) (de_var 0 (hd := nd__law_topic))) (de_var 1 (hd := nd__law_claim)))))
theorem fg__law_words_of (e : Fx K mg) : FnG P w mg base (gg K) 1 "_law_words_of" 2 m__law_words_of := ⟨_, e.gl 15 rfl, ok__law_words_of e⟩
theorem sc_Cache___init__ : FnScope (["self", "size"] : List Str) (["self", "size"] : List Str) (defScope s_Cache___init__) := ⟨rfl, rfl, rfl, by decide +kernel, rfl, by decide +kernel, by decide +kernel⟩
theorem ok_Cache___init__ (e : Fx K mg) : FnD P w mg base (gg K) 1 (He.ma K (He.ga K "Cache") "__init__") 2 m_Cache___init__ := by
  obtain ⟨fd, F⟩ := e.says.def_ 8 rfl
  have hb := FunD.bindsN (ps := (["self", "size"] : List Str)) F fun _ _ _ _ _ _ us hl => match us, hl with | [_, _], _ => rfl
  have hN : ((["self", "size"] : List Str)).Nodup := by decide +kernel
  exact fn_mkD (k := 0) F sc_Cache___init__ hb fun _ _ _ _ _ _ => (dss_cons (ds_fld (fld_size e) (de_var 0 (hd := nd_self)) (de_var 1 (hd := nd_size))) (dss_one (ds_fld (fld_kept e) (de_var 0 (hd := nd_self)) de_dict0)))
theorem mk_Cache (e : Fx K mg) : MakeD P w mg base (gg K) 1 1 "Cache" 1 m_Cache___init__ := ⟨_, _, e.gl 41 rfl, rfl, He.mkr_ok (e.says.fact 43), ok_Cache___init__ e⟩
theorem sc__law_vouchers : FnScope (["_law_state", "_law_script", "_law_houses_here", "_law_signed", "_law_vouchers_here", "_law_row", "_law_choice"] : List Str) (["_law_state", "_law_script", "_law_houses_here", "_law_signed"] : List Str) (defScope s__law_vouchers) := ⟨rfl, rfl, rfl, by decide +kernel, rfl, by decide +kernel, by decide +kernel⟩
theorem ok__law_vouchers (e : Fx K mg) : FnD P w mg base (gg K) 2 (He.ga K "_law_vouchers") 4 m__law_vouchers := by
  obtain ⟨fd, F⟩ := e.says.def_ 9 rfl
  have hb := FunD.bindsN (ps := (["_law_state", "_law_script", "_law_houses_here", "_law_signed"] : List Str)) F fun _ _ _ _ _ _ us hl => match us, hl with | [_, _, _, _], _ => rfl
  have hN : ((["_law_state", "_law_script", "_law_houses_here", "_law_signed", "_law_vouchers_here", "_law_row", "_law_choice"] : List Str)).Nodup := by decide +kernel
  exact fn_mkD (k := 1) F sc__law_vouchers hb fun _ _ _ _ _ _ => (dss_cons (ds_set (i := 4) hN (de_lst (da_cons (de_tup (da_cons (de_str [104, 48] (by kernel_rfl)) (da_cons (de_str [104, 48, 45, 57, 57] (by kernel_rfl)) da_nil))) da_nil))) (dss_cons (ds_for (passes_of rfl) (di_any (de_var 3 (hd := nd__law_signed))) (dg_name (i := 5) hN) (dss_cons (ds_set (i := 6) hN (de_call (fg__law_next e (P := P) (w := w) (base := base)) (by decide) (dan_cons (de_var 0 (hd := nd__law_state)) (dan_cons (de_var 1 (hd := nd__law_script)) (dan_cons de_int dan_nil))) (hdb := nd__law_next))) (dss_cons (ds_if (dt_gt (de_var 6 (hd := nd__law_choice)) de_int) (dss_one (ds_expr (de_append (de_var 4 (hd := nd__law_vouchers_here)) (da_cons (de_tup (da_cons (de_ix (de_var 5 (hd := nd__law_row)) de_int) (da_cons (de_ix (de_var 5 (hd := nd__law_row)) de_int) da_nil))) da_nil)))) dss_nil) (dss_one (ds_if (dt_eq (de_var 6 (hd := nd__law_choice)) de_int) (dss_one (ds_expr (de_append (de_var 4 (hd := nd__law_vouchers_here)) (da_cons (de_tup (da_cons (de_ix (de_var 5 (hd := nd__law_row)) de_int) (da_cons (de_ix (de_lst (da_cons (de_add (de_str [122, 122] (by kernel_rfl)) (de_ix (de_var 5 (hd := nd__law_row)) de_int)) (da_cons (de_sl (de_ix (de_var 5 (hd := nd__law_row)) de_int) (do_some de_int) do_none) (da_cons (de_add (de_ix (de_var 5 (hd := nd__law_row)) de_int) (de_str [32] (by kernel_rfl))) (da_cons (de_add (de_str [104, 57] (by kernel_rfl)) (de_sl (de_ix (de_var 5 (hd := nd__law_row)) de_int) (do_some de_int) do_none)) da_nil))))) (de_call (fg__law_next e (P := P) (w := w) (base := base)) (by decide) (dan_cons (de_var 0 (hd := nd__law_state)) (dan_cons (de_var 1 (hd := nd__law_script)) (dan_cons de_int dan_nil))) (hdb := nd__law_next))) da_nil))) da_nil)))) dss_nil))))) (dss_cons (ds_if (dt_eq (de_call (fg__law_next e (P := P) (w := w) (base := base)) (by decide) (dan_cons (de_var 0 (hd := nd__law_state)) (dan_cons (de_var 1 (hd := nd__law_script)) (dan_cons de_int dan_nil))) (hdb := nd__law_next)) de_int) (dss_one (ds_set (i := 4) hN (de_add (de_var 4 (hd := nd__law_vouchers_here)) (de_var 4 (hd := nd__law_vouchers_here))))) dss_nil) (dss_cons (ds_if (DW.dt (dw_and (dt_gt (de_len (e.fr 1 rfl) (da_cons (de_var 3 (hd := nd__law_signed)) da_nil)) de_int) (dw_and1 (dt_eq (de_call (fg__law_next e (P := P) (w := w) (base := base)) (by decide) (dan_cons (de_var 0 (hd := nd__law_state)) (dan_cons (de_var 1 (hd := nd__law_script)) (dan_cons de_int dan_nil))) (hdb := nd__law_next)) de_int)))) (dss_one (ds_expr (de_append (de_var 4 (hd := nd__law_vouchers_here)) (da_cons (de_tup (da_cons (de_ix (de_var 2 (hd := nd__law_houses_here)) (de_call (fg__law_next e (P := P) (w := w) (base := base)) (by decide) (dan_cons (de_var 0 (hd := nd__law_state)) (dan_cons (de_var 1 (hd := nd__law_script)) (dan_cons de_int dan_nil))) (hdb := nd__law_next))) (da_cons (de_ix (de_ix (de_var 3 (hd := nd__law_signed)) de_int) de_int) da_nil))) da_nil)))) dss_nil) (dss_one (ds_ret (de_tuple (e.fr 6 rfl) (da_cons (de_var 4 (hd := nd__law_vouchers_here)) da_nil))))))))
theorem fg__law_vouchers (e : Fx K mg) : FnG P w mg base (gg K) 2 "_law_vouchers" 4 m__law_vouchers := ⟨_, e.gl 16 rfl, ok__law_vouchers e⟩
theorem sc_Cache_topics : FnScope (["self"] : List Str) (["self"] : List Str) (defScope s_Cache_topics) := ⟨rfl, rfl, rfl, by decide +kernel, rfl, by decide +kernel, by decide +kernel⟩
theorem ok_Cache_topics (e : Fx K mg) : FnD P w mg base (gg K) 1 (He.ma K (He.ga K "Cache") "topics") 1 m_Cache_topics := by
  obtain ⟨fd, F⟩ := e.says.def_ 10 rfl
  have hb := FunD.bindsN (ps := (["self"] : List Str)) F fun _ _ _ _ _ _ us hl => match us, hl with | [_], _ => rfl
  have hN : ((["self"] : List Str)).Nodup := by decide +kernel
  exact fn_mkD (k := 0) F sc_Cache_topics hb fun _ _ _ _ _ _ => (dss_one (ds_ret (de_tuple (e.fr 6 rfl) (da_cons (de_fld (fld_kept e) (de_var 0 (hd := nd_self))) da_nil))))
theorem mt_topics (e : Fx K mg) {lv : Nat} (hl : 1 ≤ lv) : ∀ c mm, List.lookup c ([(1, m_Cache_topics)] : MTab) = some mm → ∃ j, j ≤ lv ∧ MethD P w mg base (gg K) j c "topics" 0 mm := fun c mm h => by
  by_cases h1 : c = 1
  · subst h1
    cases h
    exact ⟨1, Nat.le_trans (by decide) hl, ⟨fun C hC => by cases hC; exact ⟨He.cls_ok (e.says.fact 42), _, He.meth_ok (e.says.fact 48), ok_Cache_topics e⟩⟩⟩
  simp [List.lookup, show (c == 1) = false from by simpa using h1] at h
theorem sc_Cache_put : FnScope (["self", "topic", "claim", "vouchers", "oldest"] : List Str) (["self", "topic", "claim", "vouchers"] : List Str) (defScope s_Cache_put) := ⟨rfl, rfl, rfl, by decide +kernel, rfl, by decide +kernel, by decide +kernel⟩
theorem ok_Cache_put (e : Fx K mg) : FnD P w mg base (gg K) 2 (He.ma K (He.ga K "Cache") "put") 4 m_Cache_put := by
  obtain ⟨fd, F⟩ := e.says.def_ 11 rfl
  have hb := FunD.bindsN (ps := (["self", "topic", "claim", "vouchers"] : List Str)) F fun _ _ _ _ _ _ us hl => match us, hl with | [_, _, _, _], _ => rfl
  have hN : ((["self", "topic", "claim", "vouchers", "oldest"] : List Str)).Nodup := by decide +kernel
  exact fn_mkD (k := 1) F sc_Cache_put hb fun _ _ _ _ _ _ => (dss_cons (ds_if (dt_in (de_var 1 (hd := nd_topic)) (de_fld (fld_kept e) (de_var 0 (hd := nd_self)))) (dss_one (ds_del (de_fld (fld_kept e) (de_var 0 (hd := nd_self))) (de_var 1 (hd := nd_topic)))) dss_nil) (dss_cons (ds_sub (de_fld (fld_kept e) (de_var 0 (hd := nd_self))) (de_var 1 (hd := nd_topic)) (de_tup (da_cons (de_var 2 (hd := nd_claim)) (da_cons (de_var 3 (hd := nd_vouchers)) da_nil)))) (dss_cons (ds_if (dt_le (de_len (e.fr 1 rfl) (da_cons (de_fld (fld_kept e) (de_var 0 (hd := nd_self))) da_nil)) (de_fld (fld_size e) (de_var 0 (hd := nd_self)))) (dss_one (ds_ret de_non)) dss_nil) (dss_cons (ds_set (i := 4) hN (de_ix (de_methX0 (de_var 0 (hd := nd_self)) (mt_topics e (P := P) (w := w) (base := base) (by decide)) nf_topics) de_int)) (dss_cons (ds_del (de_fld (fld_kept e) (de_var 0 (hd := nd_self))) (de_var 4 (hd := nd_oldest))) (dss_one (ds_ret (de_var 4 (hd := nd_oldest)))))))))
theorem mt_put (e : Fx K mg) {lv : Nat} (hl : 2 ≤ lv) : ∀ c mm, List.lookup c ([(1, m_Cache_put)] : MTab) = some mm → ∃ j, j ≤ lv ∧ MethD P w mg base (gg K) j c "put" 3 mm := fun c mm h => by
  by_cases h1 : c = 1
  · subst h1
    cases h
    exact ⟨2, Nat.le_trans (by decide) hl, ⟨fun C hC => by cases hC; exact ⟨He.cls_ok (e.says.fact 42), _, He.meth_ok (e.says.fact 44), ok_Cache_put e⟩⟩⟩
  simp [List.lookup, show (c == 1) = false from by simpa using h1] at h
theorem sc_Roster_revoke : FnScope (["self", "house"] : List Str) (["self", "house"] : List Str) (defScope s_Roster_revoke) := ⟨rfl, rfl, rfl, by decide +kernel, rfl, by decide +kernel, by decide +kernel⟩
theorem ok_Roster_revoke (e : Fx K mg) : FnD P w mg base (gg K) 2 (He.ma K (He.ga K "Roster") "revoke") 2 m_Roster_revoke := by
  obtain ⟨fd, F⟩ := e.says.def_ 12 rfl
  have hb := FunD.bindsN (ps := (["self", "house"] : List Str)) F fun _ _ _ _ _ _ us hl => match us, hl with | [_, _], _ => rfl
  have hN : ((["self", "house"] : List Str)).Nodup := by decide +kernel
  exact fn_mkD (k := 1) F sc_Roster_revoke hb fun _ _ _ _ _ _ => (dss_cons (ds_expr (de_meth (de_var 0 (hd := nd_self)) (mt_check_house e (P := P) (w := w) (base := base) (by decide)) nf_check_house (dan_cons (de_var 1 (hd := nd_house)) dan_nil))) (dss_one (ds_sub (de_fld (fld_revoked e) (de_var 0 (hd := nd_self))) (de_var 1 (hd := nd_house)) de_bl)))
theorem mt_revoke (e : Fx K mg) {lv : Nat} (hl : 2 ≤ lv) : ∀ c mm, List.lookup c ([(0, m_Roster_revoke)] : MTab) = some mm → ∃ j, j ≤ lv ∧ MethD P w mg base (gg K) j c "revoke" 1 mm := fun c mm h => by
  by_cases h0 : c = 0
  · subst h0
    cases h
    exact ⟨2, Nat.le_trans (by decide) hl, ⟨fun C hC => by cases hC; exact ⟨He.cls_ok (e.says.fact 28), _, He.meth_ok (e.says.fact 33), ok_Roster_revoke e⟩⟩⟩
  simp [List.lookup, show (c == 0) = false from by simpa using h0] at h
theorem sc__law_good : FnScope (["_law_signed", "_law_gone", "_law_need", "_law_topic", "_law_entry_here", "_law_words", "_law_found", "_law_row", "_law_voucher"] : List Str) (["_law_signed", "_law_gone", "_law_need", "_law_topic", "_law_entry_here"] : List Str) (defScope s__law_good) := ⟨rfl, rfl, rfl, by decide +kernel, rfl, by decide +kernel, by decide +kernel⟩
theorem ok__law_good (e : Fx K mg) : FnD P w mg base (gg K) 1 (He.ga K "_law_good") 5 m__law_good := by
  obtain ⟨fd, F⟩ := e.says.def_ 13 rfl
  have hb := FunD.bindsN (ps := (["_law_signed", "_law_gone", "_law_need", "_law_topic", "_law_entry_here"] : List Str)) F fun _ _ _ _ _ _ us hl => match us, hl with | [_, _, _, _, _], _ => rfl
  have hN : ((["_law_signed", "_law_gone", "_law_need", "_law_topic", "_law_entry_here", "_law_words", "_law_found", "_law_row", "_law_voucher"] : List Str)).Nodup := by decide +kernel
  exact fn_mkD (k := 0) F sc__law_good hb fun _ _ _ _ _ _ => (dss_cons (ds_if (dt_is (de_var 4 (hd := nd__law_entry_here)) de_non) (dss_one (ds_ret (de_tup (da_cons de_non (da_cons (de_tup da_nil) da_nil))))) dss_nil) (dss_cons (ds_set (i := 5) hN (de_lc hN (own := [("_law_row", 7)]) (by show blkC (["_law_signed", "_law_gone", "_law_need", "_law_topic", "_law_entry_here", "_law_words", "_law_found", "_law_row", "_law_voucher"] : List Str) (defScope s__law_good) _ _ = true; decide +kernel) (by decide) (di_any (de_var 0 (hd := nd__law_signed))) (fun _ _ _ _ _ => (dg_name (i := 7) hN)) (fun _ _ _ _ _ => (dts_one (DW.dt (dw_and (dt_eq (de_sl (de_var 7 (hd := nd__law_row)) (do_some de_int) do_none) (de_tup (da_cons (de_var 3 (hd := nd__law_topic)) (da_cons (de_ix (de_var 4 (hd := nd__law_entry_here)) de_int) da_nil)))) (dw_and1 (dt_notIn (de_ix (de_var 7 (hd := nd__law_row)) de_int) (de_var 1 (hd := nd__law_gone)))))))) (fun _ _ _ _ _ => (de_tup (da_cons (de_ix (de_var 7 (hd := nd__law_row)) de_int) (da_cons (de_ix (de_var 7 (hd := nd__law_row)) de_int) da_nil)))))) (dss_cons (ds_set (i := 6) hN (de_tuple (e.fr 6 rfl) (da_cons (de_lc hN (own := [("_law_voucher", 8)]) (by show blkC (["_law_signed", "_law_gone", "_law_need", "_law_topic", "_law_entry_here", "_law_words", "_law_found", "_law_row", "_law_voucher"] : List Str) (defScope s__law_good) _ _ = true; decide +kernel) (by decide) (di_any (de_ix (de_var 4 (hd := nd__law_entry_here)) de_int)) (fun _ _ _ _ _ => (dg_name (i := 8) hN)) (fun _ _ _ _ _ => (dts_one (dt_in (de_var 8 (hd := nd__law_voucher)) (de_var 5 (hd := nd__law_words))))) (fun _ _ _ _ _ => (de_var 8 (hd := nd__law_voucher)))) da_nil))) (dss_cons (ds_if (dt_lt (de_lenSet (e.fr 1 rfl) (e.fr 7 rfl) (de_lc hN (own := [("_law_voucher", 8)]) (by show blkC (["_law_signed", "_law_gone", "_law_need", "_law_topic", "_law_entry_here", "_law_words", "_law_found", "_law_row", "_law_voucher"] : List Str) (defScope s__law_good) _ _ = true; decide +kernel) (by decide) (di_any (de_var 6 (hd := nd__law_found))) (fun _ _ _ _ _ => (dg_name (i := 8) hN)) (fun _ _ _ _ _ => dts_nil) (fun _ _ _ _ _ => (de_ix (de_var 8 (hd := nd__law_voucher)) de_int)))) (de_var 2 (hd := nd__law_need))) (dss_one (ds_ret (de_tup (da_cons de_non (da_cons (de_tup da_nil) da_nil))))) dss_nil) (dss_one (ds_ret (de_tup (da_cons (de_ix (de_var 4 (hd := nd__law_entry_here)) de_int) (da_cons (de_var 6 (hd := nd__law_found)) da_nil)))))))))
theorem fg__law_good (e : Fx K mg) : FnG P w mg base (gg K) 1 "_law_good" 5 m__law_good := ⟨_, e.gl 17 rfl, ok__law_good e⟩
theorem sc__law_entry : FnScope (["_law_entries", "_law_topic", "_law_row"] : List Str) (["_law_entries", "_law_topic"] : List Str) (defScope s__law_entry) := ⟨rfl, rfl, rfl, by decide +kernel, rfl, by decide +kernel, by decide +kernel⟩
theorem ok__law_entry (e : Fx K mg) : FnD P w mg base (gg K) 1 (He.ga K "_law_entry") 2 m__law_entry := by
  obtain ⟨fd, F⟩ := e.says.def_ 14 rfl
  have hb := FunD.bindsN (ps := (["_law_entries", "_law_topic"] : List Str)) F fun _ _ _ _ _ _ us hl => match us, hl with | [_, _], _ => rfl
  have hN : ((["_law_entries", "_law_topic", "_law_row"] : List Str)).Nodup := by decide +kernel
  exact fn_mkD (k := 0) F sc__law_entry hb fun _ _ _ _ _ _ => (dss_cons (ds_for (passes_of rfl) (di_any (de_var 0 (hd := nd__law_entries))) (dg_name (i := 2) hN) (dss_one (ds_if (dt_eq (de_ix (de_var 2 (hd := nd__law_row)) de_int) (de_var 1 (hd := nd__law_topic))) (dss_one (ds_ret (de_tup (da_cons (de_ix (de_var 2 (hd := nd__law_row)) de_int) (da_cons (de_ix (de_var 2 (hd := nd__law_row)) de_int) da_nil))))) dss_nil))) (dss_one (ds_ret de_non)))
theorem fg__law_entry (e : Fx K mg) : FnG P w mg base (gg K) 1 "_law_entry" 2 m__law_entry := ⟨_, e.gl 18 rfl, ok__law_entry e⟩
theorem sc__law_same : FnScope (["_law_actual", "_law_due", "_law_k"] : List Str) (["_law_actual", "_law_due"] : List Str) (defScope s__law_same) := ⟨rfl, rfl, rfl, by decide +kernel, rfl, by decide +kernel, by decide +kernel⟩
theorem ok__law_same (e : Fx K mg) : ∀ k, FnD P w mg base (gg K) (0 + k) (He.ga K "_law_same") 2 (m__law_same k) := fun k => by
  obtain ⟨fd, F⟩ := e.says.def_ 15 rfl
  have hb := FunD.bindsN (ps := (["_law_actual", "_law_due"] : List Str)) F fun _ _ _ _ _ _ us hl => match us, hl with | [_, _], _ => rfl
  have hN : ((["_law_actual", "_law_due", "_law_k"] : List Str)).Nodup := by decide +kernel
  induction k with
  | zero => exact fn_bad (g := gg K) F hb
  | succ k ih =>
    have hself : FnG P w mg base (gg K) (0 + k) "_law_same" 2 (m__law_same k) := ⟨_, e.gl 19 rfl, ih⟩
    exact fn_mkD F sc__law_same hb fun _ _ _ _ _ _ => (dss_cons (ds_if (dt_is (de_var 1 (hd := nd__law_due)) de_non) (dss_one (ds_ret (de_is (de_var 0 (hd := nd__law_actual)) de_non))) dss_nil) (dss_cons (ds_if (dt_tru (de_isi .tup (e.fr 8 rfl) (e.fr 6 rfl) boot_tuple (de_var 1 (hd := nd__law_due)))) (dss_cons (ds_if (DW.dt (dw_or (dt_not (dt_tru (de_isi .tup (e.fr 8 rfl) (e.fr 6 rfl) boot_tuple (de_var 0 (hd := nd__law_actual))))) (dw_or1 (dt_ne (de_len (e.fr 1 rfl) (da_cons (de_var 0 (hd := nd__law_actual)) da_nil)) (de_len (e.fr 1 rfl) (da_cons (de_var 1 (hd := nd__law_due)) da_nil)))))) (dss_one (ds_ret de_bl)) dss_nil) (dss_cons (ds_for (passes_of rfl) (di_range1 (e.fr 4 rfl) (da_cons (de_len (e.fr 1 rfl) (da_cons (de_var 1 (hd := nd__law_due)) da_nil)) da_nil)) (dg_name (i := 2) hN) (dss_one (ds_if (dt_not (dt_tru (de_call hself (by first | exact Nat.le_refl _ | decide | (simp only [Nat.add_eq]; omega)) (dan_cons (de_ix (de_var 0 (hd := nd__law_actual)) (de_var 2 (hd := nd__law_k))) (dan_cons (de_ix (de_var 1 (hd := nd__law_due)) (de_var 2 (hd := nd__law_k))) dan_nil)) (hdb := nd__law_same)))) (dss_one (ds_ret de_bl)) dss_nil))) (dss_one (ds_ret de_bl)))) dss_nil) (dss_cons (ds_if (dt_tru (de_isi .bl (e.fr 8 rfl) (e.fr 9 rfl) boot_bool (de_var 1 (hd := nd__law_due)))) (dss_one (ds_ret (de_andV (de_isi .bl (e.fr 8 rfl) (e.fr 9 rfl) boot_bool (de_var 0 (hd := nd__law_actual))) (de_one (de_eq (de_var 0 (hd := nd__law_actual)) (de_var 1 (hd := nd__law_due))))))) dss_nil) (dss_cons (ds_if (dt_tru (de_isi .int (e.fr 8 rfl) (e.fr 0 rfl) boot_int (de_var 1 (hd := nd__law_due)))) (dss_one (ds_ret (de_andV (de_isi .int (e.fr 8 rfl) (e.fr 0 rfl) boot_int (de_var 0 (hd := nd__law_actual))) (de_andV (de_notV (de_isi .bl (e.fr 8 rfl) (e.fr 9 rfl) boot_bool (de_var 0 (hd := nd__law_actual)))) (de_one (de_eq (de_var 0 (hd := nd__law_actual)) (de_var 1 (hd := nd__law_due)))))))) dss_nil) (dss_one (ds_ret (de_andV (de_isi .str (e.fr 8 rfl) (e.fr 5 rfl) boot_str (de_var 0 (hd := nd__law_actual))) (de_one (de_eq (de_var 0 (hd := nd__law_actual)) (de_var 1 (hd := nd__law_due)))))))))))
theorem fg__law_same (e : Fx K mg) (k : Nat) : FnG P w mg base (gg K) (0 + k) "_law_same" 2 (m__law_same k) := ⟨_, e.gl 19 rfl, ok__law_same e k⟩
theorem sc_Cache_entry : FnScope (["self", "topic"] : List Str) (["self", "topic"] : List Str) (defScope s_Cache_entry) := ⟨rfl, rfl, rfl, by decide +kernel, rfl, by decide +kernel, by decide +kernel⟩
theorem ok_Cache_entry (e : Fx K mg) : FnD P w mg base (gg K) 1 (He.ma K (He.ga K "Cache") "entry") 2 m_Cache_entry := by
  obtain ⟨fd, F⟩ := e.says.def_ 16 rfl
  have hb := FunD.bindsN (ps := (["self", "topic"] : List Str)) F fun _ _ _ _ _ _ us hl => match us, hl with | [_, _], _ => rfl
  have hN : ((["self", "topic"] : List Str)).Nodup := by decide +kernel
  exact fn_mkD (k := 0) F sc_Cache_entry hb fun _ _ _ _ _ _ => (dss_one (ds_ret (de_get1 (de_fld (fld_kept e) (de_var 0 (hd := nd_self))) (de_var 1 (hd := nd_topic)))))
theorem mt_entry (e : Fx K mg) {lv : Nat} (hl : 1 ≤ lv) : ∀ c mm, List.lookup c ([(1, m_Cache_entry)] : MTab) = some mm → ∃ j, j ≤ lv ∧ MethD P w mg base (gg K) j c "entry" 1 mm := fun c mm h => by
  by_cases h1 : c = 1
  · subst h1
    cases h
    exact ⟨1, Nat.le_trans (by decide) hl, ⟨fun C hC => by cases hC; exact ⟨He.cls_ok (e.says.fact 42), _, He.meth_ok (e.says.fact 45), ok_Cache_entry e⟩⟩⟩
  simp [List.lookup, show (c == 1) = false from by simpa using h1] at h
theorem sc_words_of : FnScope (["topic", "claim"] : List Str) (["topic", "claim"] : List Str) (defScope s_words_of) := ⟨rfl, rfl, rfl, by decide +kernel, rfl, by decide +kernel, by decide +kernel⟩
theorem ok_words_of (e : Fx K mg) : FnD P w mg base (gg K) 1 (He.ga K "words_of") 2 m_words_of := by
  obtain ⟨fd, F⟩ := e.says.def_ 17 rfl
  have hb := FunD.bindsN (ps := (["topic", "claim"] : List Str)) F fun _ _ _ _ _ _ us hl => match us, hl with | [_, _], _ => rfl
  have hN : ((["topic", "claim"] : List Str)).Nodup := by decide +kernel
  exact fn_mkD (k := 0) F sc_words_of hb fun _ _ _ _ _ _ => (dss_one (ds_ret (de_join (.cons (de_fmt (de_len (e.fr 1 rfl) (da_cons (de_var 0 (hd := nd_topic)) da_nil))) (.cons (de_str [58] (by kernel_rfl)) (.cons (de_fmt (de_var 0 (hd := nd_topic))) (.cons (de_fmt (de_var 1 (hd := nd_claim))) .nil)))))))
theorem fg_words_of (e : Fx K mg) : FnG P w mg base (gg K) 1 "words_of" 2 m_words_of := ⟨_, e.gl 20 rfl, ok_words_of e⟩
theorem sc_Roster_is_revoked : FnScope (["self", "house"] : List Str) (["self", "house"] : List Str) (defScope s_Roster_is_revoked) := ⟨rfl, rfl, rfl, by decide +kernel, rfl, by decide +kernel, by decide +kernel⟩
theorem ok_Roster_is_revoked (e : Fx K mg) : FnD P w mg base (gg K) 1 (He.ma K (He.ga K "Roster") "is_revoked") 2 m_Roster_is_revoked := by
  obtain ⟨fd, F⟩ := e.says.def_ 18 rfl
  have hb := FunD.bindsN (ps := (["self", "house"] : List Str)) F fun _ _ _ _ _ _ us hl => match us, hl with | [_, _], _ => rfl
  have hN : ((["self", "house"] : List Str)).Nodup := by decide +kernel
  exact fn_mkD (k := 0) F sc_Roster_is_revoked hb fun _ _ _ _ _ _ => (dss_one (ds_ret (de_in (de_var 1 (hd := nd_house)) (de_fld (fld_revoked e) (de_var 0 (hd := nd_self))))))
theorem mt_is_revoked (e : Fx K mg) {lv : Nat} (hl : 1 ≤ lv) : ∀ c mm, List.lookup c ([(0, m_Roster_is_revoked)] : MTab) = some mm → ∃ j, j ≤ lv ∧ MethD P w mg base (gg K) j c "is_revoked" 1 mm := fun c mm h => by
  by_cases h0 : c = 0
  · subst h0
    cases h
    exact ⟨1, Nat.le_trans (by decide) hl, ⟨fun C hC => by cases hC; exact ⟨He.cls_ok (e.says.fact 28), _, He.meth_ok (e.says.fact 34), ok_Roster_is_revoked e⟩⟩⟩
  simp [List.lookup, show (c == 0) = false from by simpa using h0] at h
theorem sc_Roster_counts : FnScope (["self", "mark", "house", "words"] : List Str) (["self", "mark", "house", "words"] : List Str) (defScope s_Roster_counts) := ⟨rfl, rfl, rfl, by decide +kernel, rfl, by decide +kernel, by decide +kernel⟩
theorem ok_Roster_counts (e : Fx K mg) : FnD P w mg base (gg K) 2 (He.ma K (He.ga K "Roster") "counts") 4 m_Roster_counts := by
  obtain ⟨fd, F⟩ := e.says.def_ 19 rfl
  have hb := FunD.bindsN (ps := (["self", "mark", "house", "words"] : List Str)) F fun _ _ _ _ _ _ us hl => match us, hl with | [_, _, _, _], _ => rfl
  have hN : ((["self", "mark", "house", "words"] : List Str)).Nodup := by decide +kernel
  exact fn_mkD (k := 1) F sc_Roster_counts hb fun _ _ _ _ _ _ => (dss_cons (ds_if (dt_tru (de_meth (de_var 0 (hd := nd_self)) (mt_is_revoked e (P := P) (w := w) (base := base) (by decide)) nf_is_revoked (dan_cons (de_var 2 (hd := nd_house)) dan_nil))) (dss_one (ds_ret de_bl)) dss_nil) (dss_one (ds_ret (de_eq (de_get1 (de_fld (fld_signatures e) (de_var 0 (hd := nd_self))) (de_var 1 (hd := nd_mark))) (de_tup (da_cons (de_var 2 (hd := nd_house)) (da_cons (de_var 3 (hd := nd_words)) da_nil)))))))
theorem mt_counts (e : Fx K mg) {lv : Nat} (hl : 2 ≤ lv) : ∀ c mm, List.lookup c ([(0, m_Roster_counts)] : MTab) = some mm → ∃ j, j ≤ lv ∧ MethD P w mg base (gg K) j c "counts" 3 mm := fun c mm h => by
  by_cases h0 : c = 0
  · subst h0
    cases h
    exact ⟨2, Nat.le_trans (by decide) hl, ⟨fun C hC => by cases hC; exact ⟨He.cls_ok (e.says.fact 28), _, He.meth_ok (e.says.fact 35), ok_Roster_counts e⟩⟩⟩
  simp [List.lookup, show (c == 0) = false from by simpa using h0] at h
theorem sc_good_claim : FnScope (["cache", "roster", "topic", "found", "claim", "vouchers", "words", "houses", "house", "mark"] : List Str) (["cache", "roster", "topic"] : List Str) (defScope s_good_claim) := ⟨rfl, rfl, rfl, by decide +kernel, rfl, by decide +kernel, by decide +kernel⟩
theorem ok_good_claim (e : Fx K mg) : FnD P w mg base (gg K) 3 (He.ga K "good_claim") 3 m_good_claim := by
  obtain ⟨fd, F⟩ := e.says.def_ 20 rfl
  have hb := FunD.bindsN (ps := (["cache", "roster", "topic"] : List Str)) F fun _ _ _ _ _ _ us hl => match us, hl with | [_, _, _], _ => rfl
  have hN : ((["cache", "roster", "topic", "found", "claim", "vouchers", "words", "houses", "house", "mark"] : List Str)).Nodup := by decide +kernel
  exact fn_mkD (k := 2) F sc_good_claim hb fun _ _ _ _ _ _ => (dss_cons (ds_set (i := 3) hN (de_meth (de_var 0 (hd := nd_cache)) (mt_entry e (P := P) (w := w) (base := base) (by decide)) nf_entry (dan_cons (de_var 2 (hd := nd_topic)) dan_nil))) (dss_cons (ds_if (dt_is (de_var 3 (hd := nd_found)) de_non) (dss_one (ds_ret de_non)) dss_nil) (dss_cons (ds_asg (de_var 3 (hd := nd_found)) (dg_tup (n := 2) (dgs_cons (dg_name (i := 4) hN) (dgs_cons (dg_name (i := 5) hN) dgs_nil)))) (dss_cons (ds_set (i := 6) hN (de_call (fg_words_of e (P := P) (w := w) (base := base)) (by decide) (dan_cons (de_var 2 (hd := nd_topic)) (dan_cons (de_var 4 (hd := nd_claim)) dan_nil)) (hdb := nd_words_of))) (dss_cons (ds_setDc (own := [("house", 8), ("mark", 9)]) (i := 7) hN rfl rfl (sw_trueD rfl rfl rfl rfl) (by show blkC (["cache", "roster", "topic", "found", "claim", "vouchers", "words", "houses", "house", "mark"] : List Str) (defScope s_good_claim) _ _ = true; decide +kernel) (by decide) (di_any (de_var 5 (hd := nd_vouchers))) (fun _ _ _ _ _ => (dg_tup (n := 2) (dgs_cons (dg_name (i := 8) hN) (dgs_cons (dg_name (i := 9) hN) dgs_nil)))) (fun _ _ _ _ _ => (dts_one (dt_tru (de_meth (de_var 1 (hd := nd_roster)) (mt_counts e (P := P) (w := w) (base := base) (by decide)) nf_counts (dan_cons (de_var 9 (hd := nd_mark)) (dan_cons (de_var 8 (hd := nd_house)) (dan_cons (de_var 6 (hd := nd_words)) dan_nil))))))) (fun _ _ _ _ _ => (de_var 8 (hd := nd_house))) (fun _ _ _ _ _ => de_bl)) (dss_one (ds_ret (de_ifExp (dt_ge (de_len (e.fr 1 rfl) (da_cons (de_var 7 (hd := nd_houses)) da_nil)) (de_fld (fld_need e) (de_var 1 (hd := nd_roster)))) (de_var 4 (hd := nd_claim)) de_non))))))))
theorem fg_good_claim (e : Fx K mg) : FnG P w mg base (gg K) 3 "good_claim" 3 m_good_claim := ⟨_, e.gl 21 rfl, ok_good_claim e⟩
theorem sc__law_kept : FnScope (["_law_cache", "_law_entries", "_law_row"] : List Str) (["_law_cache", "_law_entries"] : List Str) (defScope s__law_kept) := ⟨rfl, rfl, rfl, by decide +kernel, rfl, by decide +kernel, by decide +kernel⟩
theorem ok__law_kept (e : Fx K mg) : FnD P w mg base (gg K) 9 (He.ga K "_law_kept") 2 m__law_kept := by
  obtain ⟨fd, F⟩ := e.says.def_ 21 rfl
  have hb := FunD.bindsN (ps := (["_law_cache", "_law_entries"] : List Str)) F fun _ _ _ _ _ _ us hl => match us, hl with | [_, _], _ => rfl
  have hN : ((["_law_cache", "_law_entries", "_law_row"] : List Str)).Nodup := by decide +kernel
  exact fn_mkD (k := 8) F sc__law_kept hb fun _ _ _ _ _ _ => (dss_cons (ds_if (dt_not (dt_tru (de_call (fg__law_same e 8 (P := P) (w := w) (base := base)) (by decide) (dan_cons (de_methX0 (de_var 0 (hd := nd__law_cache)) (mt_topics e (P := P) (w := w) (base := base) (by decide)) nf_topics) (dan_cons (de_tuple (e.fr 6 rfl) (da_cons (de_lc hN (own := [("_law_row", 2)]) (by show blkC (["_law_cache", "_law_entries", "_law_row"] : List Str) (defScope s__law_kept) _ _ = true; decide +kernel) (by decide) (di_any (de_var 1 (hd := nd__law_entries))) (fun _ _ _ _ _ => (dg_name (i := 2) hN)) (fun _ _ _ _ _ => dts_nil) (fun _ _ _ _ _ => (de_ix (de_var 2 (hd := nd__law_row)) de_int))) da_nil)) dan_nil)) (hdb := nd__law_same)))) (dss_one (ds_ret de_bl)) dss_nil) (dss_cons (ds_for (passes_of rfl) (di_any (de_var 1 (hd := nd__law_entries))) (dg_name (i := 2) hN) (dss_one (ds_if (dt_not (dt_tru (de_call (fg__law_same e 8 (P := P) (w := w) (base := base)) (by decide) (dan_cons (de_meth (de_var 0 (hd := nd__law_cache)) (mt_entry e (P := P) (w := w) (base := base) (by decide)) nf_entry (dan_cons (de_ix (de_var 2 (hd := nd__law_row)) de_int) dan_nil)) (dan_cons (de_tup (da_cons (de_ix (de_var 2 (hd := nd__law_row)) de_int) (da_cons (de_ix (de_var 2 (hd := nd__law_row)) de_int) da_nil))) dan_nil)) (hdb := nd__law_same)))) (dss_one (ds_ret de_bl)) dss_nil))) (dss_one (ds_ret de_bl))))
theorem fg__law_kept (e : Fx K mg) : FnG P w mg base (gg K) 9 "_law_kept" 2 m__law_kept := ⟨_, e.gl 22 rfl, ok__law_kept e⟩
theorem sc_look_up : FnScope (["caches", "roster", "topic", "cache", "claim", "words", "vouchers", "house", "mark"] : List Str) (["caches", "roster", "topic"] : List Str) (defScope s_look_up) := ⟨rfl, rfl, rfl, by decide +kernel, rfl, by decide +kernel, by decide +kernel⟩
theorem ok_look_up (e : Fx K mg) : FnD P w mg base (gg K) 4 (He.ga K "look_up") 3 m_look_up := by
  obtain ⟨fd, F⟩ := e.says.def_ 22 rfl
  have hb := FunD.bindsN (ps := (["caches", "roster", "topic"] : List Str)) F fun _ _ _ _ _ _ us hl => match us, hl with | [_, _, _], _ => rfl
  have hN : ((["caches", "roster", "topic", "cache", "claim", "words", "vouchers", "house", "mark"] : List Str)).Nodup := by decide +kernel
  exact fn_mkD (k := 3) F sc_look_up hb fun _ _ _ _ _ _ => (dss_cons (ds_for (passes_of rfl) (di_any (de_var 0 (hd := nd_caches))) (dg_name (i := 3) hN) (dss_cons (ds_set (i := 4) hN (de_call (fg_good_claim e (P := P) (w := w) (base := base)) (by decide) (dan_cons (de_var 3 (hd := nd_cache)) (dan_cons (de_var 1 (hd := nd_roster)) (dan_cons (de_var 2 (hd := nd_topic)) dan_nil))) (hdb := nd_good_claim))) (dss_one (ds_if (dt_isnot (de_var 4 (hd := nd_claim)) de_non) (dss_cons (ds_set (i := 5) hN (de_call (fg_words_of e (P := P) (w := w) (base := base)) (by decide) (dan_cons (de_var 2 (hd := nd_topic)) (dan_cons (de_var 4 (hd := nd_claim)) dan_nil)) (hdb := nd_words_of))) (dss_cons (ds_setLc (i := 6) hN rfl rfl (sw_true rfl rfl rfl rfl) (own := [("house", 7), ("mark", 8)]) (by show blkC (["caches", "roster", "topic", "cache", "claim", "words", "vouchers", "house", "mark"] : List Str) (defScope s_look_up) _ _ = true; decide +kernel) (by decide) (di_any (de_ix (de_meth (de_var 3 (hd := nd_cache)) (mt_entry e (P := P) (w := w) (base := base) (by decide)) nf_entry (dan_cons (de_var 2 (hd := nd_topic)) dan_nil)) de_int)) (fun _ _ _ _ _ => (dg_tup (n := 2) (dgs_cons (dg_name (i := 7) hN) (dgs_cons (dg_name (i := 8) hN) dgs_nil)))) (fun _ _ _ _ _ => (dts_one (dt_tru (de_meth (de_var 1 (hd := nd_roster)) (mt_counts e (P := P) (w := w) (base := base) (by decide)) nf_counts (dan_cons (de_var 8 (hd := nd_mark)) (dan_cons (de_var 7 (hd := nd_house)) (dan_cons (de_var 5 (hd := nd_words)) dan_nil))))))) (fun _ _ _ _ _ => (de_tup (da_cons (de_var 7 (hd := nd_house)) (da_cons (de_var 8 (hd := nd_mark)) da_nil))))) (dss_one (ds_ret (de_tup (da_cons (de_var 4 (hd := nd_claim)) (da_cons (de_tuple (e.fr 6 rfl) (da_cons (de_var 6 (hd := nd_vouchers)) da_nil)) da_nil))))))) dss_nil)))) (dss_one (ds_ret de_non)))
theorem fg_look_up (e : Fx K mg) : FnG P w mg base (gg K) 4 "look_up" 3 m_look_up := ⟨_, e.gl 23 rfl, ok_look_up e⟩
theorem sc__law_looked : FnScope (["_law_caches", "_law_kept_here", "_law_roster", "_law_signed", "_law_gone", "_law_need", "_law_topic", "_law_first", "_law_k", "_law_handed", "_law_due"] : List Str) (["_law_caches", "_law_kept_here", "_law_roster", "_law_signed", "_law_gone", "_law_need"] : List Str) (defScope s__law_looked) := ⟨rfl, rfl, rfl, by decide +kernel, rfl, by decide +kernel, by decide +kernel⟩
theorem ok__law_looked (e : Fx K mg) : FnD P w mg base (gg K) 10 (He.ga K "_law_looked") 6 m__law_looked := by
  obtain ⟨fd, F⟩ := e.says.def_ 23 rfl
  have hb := FunD.bindsN (ps := (["_law_caches", "_law_kept_here", "_law_roster", "_law_signed", "_law_gone", "_law_need"] : List Str)) F fun _ _ _ _ _ _ us hl => match us, hl with | [_, _, _, _, _, _], _ => rfl
  have hN : ((["_law_caches", "_law_kept_here", "_law_roster", "_law_signed", "_law_gone", "_law_need", "_law_topic", "_law_first", "_law_k", "_law_handed", "_law_due"] : List Str)).Nodup := by decide +kernel
  exact fn_mkD (k := 9) F sc__law_looked hb fun _ _ _ _ _ _ => (dss_cons (ds_for (passes_of rfl) (di_any (de_call0 (fg__law_topics e (P := P) (w := w) (base := base)) (by decide) (hdb := nd__law_topics))) (dg_name (i := 6) hN) (dss_cons (ds_set (i := 7) hN de_non) (dss_cons (ds_for (passes_of rfl) (di_range1 (e.fr 4 rfl) (da_cons (de_len (e.fr 1 rfl) (da_cons (de_var 0 (hd := nd__law_caches)) da_nil)) da_nil)) (dg_name (i := 8) hN) (dss_cons (ds_set (i := 10) hN (de_call (fg__law_good e (P := P) (w := w) (base := base)) (by decide) (dan_cons (de_var 3 (hd := nd__law_signed)) (dan_cons (de_var 4 (hd := nd__law_gone)) (dan_cons (de_var 5 (hd := nd__law_need)) (dan_cons (de_var 6 (hd := nd__law_topic)) (dan_cons (de_call (fg__law_entry e (P := P) (w := w) (base := base)) (by decide) (dan_cons (de_ix (de_var 1 (hd := nd__law_kept_here)) (de_var 8 (hd := nd__law_k))) (dan_cons (de_var 6 (hd := nd__law_topic)) dan_nil)) (hdb := nd__law_entry)) dan_nil))))) (hdb := nd__law_good))) (dss_cons (ds_if (DW.dt (dw_and (dt_isnot (de_ix (de_var 10 (hd := nd__law_due)) de_int) de_non) (dw_and1 (dt_is (de_var 7 (hd := nd__law_first)) de_non)))) (dss_one (ds_set (i := 7) hN (de_var 10 (hd := nd__law_due)))) dss_nil) (dss_one (ds_if (DW.dt (dw_or (dt_not (dt_tru (de_call (fg__law_same e 8 (P := P) (w := w) (base := base)) (by decide) (dan_cons (de_call (fg_good_claim e (P := P) (w := w) (base := base)) (by decide) (dan_cons (de_ix (de_var 0 (hd := nd__law_caches)) (de_var 8 (hd := nd__law_k))) (dan_cons (de_var 2 (hd := nd__law_roster)) (dan_cons (de_var 6 (hd := nd__law_topic)) dan_nil))) (hdb := nd_good_claim)) (dan_cons (de_ix (de_var 10 (hd := nd__law_due)) de_int) dan_nil)) (hdb := nd__law_same)))) (dw_or1 (dt_not (dt_tru (de_call (fg__law_kept e (P := P) (w := w) (base := base)) (by decide) (dan_cons (de_ix (de_var 0 (hd := nd__law_caches)) (de_var 8 (hd := nd__law_k))) (dan_cons (de_ix (de_var 1 (hd := nd__law_kept_here)) (de_var 8 (hd := nd__law_k))) dan_nil)) (hdb := nd__law_kept))))))) (dss_one (ds_ret de_bl)) dss_nil))))) (dss_cons (ds_set (i := 9) hN (de_list (e.fr 10 rfl) (da_cons (de_var 0 (hd := nd__law_caches)) da_nil))) (dss_cons (ds_if (DW.dt (dw_or (dt_not (dt_tru (de_call (fg__law_same e 8 (P := P) (w := w) (base := base)) (by decide) (dan_cons (de_call (fg_look_up e (P := P) (w := w) (base := base)) (by decide) (dan_cons (de_var 9 (hd := nd__law_handed)) (dan_cons (de_var 2 (hd := nd__law_roster)) (dan_cons (de_var 6 (hd := nd__law_topic)) dan_nil))) (hdb := nd_look_up)) (dan_cons (de_var 7 (hd := nd__law_first)) dan_nil)) (hdb := nd__law_same)))) (dw_or1 (dt_ne (de_var 9 (hd := nd__law_handed)) (de_var 0 (hd := nd__law_caches)))))) (dss_one (ds_ret de_bl)) dss_nil) (dss_one (ds_for (passes_of rfl) (di_range1 (e.fr 4 rfl) (da_cons (de_len (e.fr 1 rfl) (da_cons (de_var 0 (hd := nd__law_caches)) da_nil)) da_nil)) (dg_name (i := 8) hN) (dss_one (ds_if (dt_not (dt_tru (de_call (fg__law_kept e (P := P) (w := w) (base := base)) (by decide) (dan_cons (de_ix (de_var 0 (hd := nd__law_caches)) (de_var 8 (hd := nd__law_k))) (dan_cons (de_ix (de_var 1 (hd := nd__law_kept_here)) (de_var 8 (hd := nd__law_k))) dan_nil)) (hdb := nd__law_kept)))) (dss_one (ds_ret de_bl)) dss_nil))))))))) (dss_one (ds_ret de_bl)))
theorem fg__law_looked (e : Fx K mg) : FnG P w mg base (gg K) 10 "_law_looked" 6 m__law_looked := ⟨_, e.gl 24 rfl, ok__law_looked e⟩
theorem sc_Cache_spoil : FnScope (["self", "topic", "claim"] : List Str) (["self", "topic", "claim"] : List Str) (defScope s_Cache_spoil) := ⟨rfl, rfl, rfl, by decide +kernel, rfl, by decide +kernel, by decide +kernel⟩
theorem ok_Cache_spoil (e : Fx K mg) : FnD P w mg base (gg K) 1 (He.ma K (He.ga K "Cache") "spoil") 3 m_Cache_spoil := by
  obtain ⟨fd, F⟩ := e.says.def_ 24 rfl
  have hb := FunD.bindsN (ps := (["self", "topic", "claim"] : List Str)) F fun _ _ _ _ _ _ us hl => match us, hl with | [_, _, _], _ => rfl
  have hN : ((["self", "topic", "claim"] : List Str)).Nodup := by decide +kernel
  exact fn_mkD (k := 0) F sc_Cache_spoil hb fun _ _ _ _ _ _ => (dss_cons (ds_if (dt_notIn (de_var 1 (hd := nd_topic)) (de_fld (fld_kept e) (de_var 0 (hd := nd_self)))) (dss_one (ds_ret de_bl)) dss_nil) (dss_cons (ds_sub (de_fld (fld_kept e) (de_var 0 (hd := nd_self))) (de_var 1 (hd := nd_topic)) (de_tup (da_cons (de_var 2 (hd := nd_claim)) (da_cons (de_ix (de_ix (de_fld (fld_kept e) (de_var 0 (hd := nd_self))) (de_var 1 (hd := nd_topic))) de_int) da_nil)))) (dss_one (ds_ret de_bl))))
theorem mt_spoil (e : Fx K mg) {lv : Nat} (hl : 1 ≤ lv) : ∀ c mm, List.lookup c ([(1, m_Cache_spoil)] : MTab) = some mm → ∃ j, j ≤ lv ∧ MethD P w mg base (gg K) j c "spoil" 2 mm := fun c mm h => by
  by_cases h1 : c = 1
  · subst h1
    cases h
    exact ⟨1, Nat.le_trans (by decide) hl, ⟨fun C hC => by cases hC; exact ⟨He.cls_ok (e.says.fact 42), _, He.meth_ok (e.says.fact 47), ok_Cache_spoil e⟩⟩⟩
  simp [List.lookup, show (c == 1) = false from by simpa using h1] at h
theorem sc_Cache_lose : FnScope (["self", "topic"] : List Str) (["self", "topic"] : List Str) (defScope s_Cache_lose) := ⟨rfl, rfl, rfl, by decide +kernel, rfl, by decide +kernel, by decide +kernel⟩
theorem ok_Cache_lose (e : Fx K mg) : FnD P w mg base (gg K) 1 (He.ma K (He.ga K "Cache") "lose") 2 m_Cache_lose := by
  obtain ⟨fd, F⟩ := e.says.def_ 25 rfl
  have hb := FunD.bindsN (ps := (["self", "topic"] : List Str)) F fun _ _ _ _ _ _ us hl => match us, hl with | [_, _], _ => rfl
  have hN : ((["self", "topic"] : List Str)).Nodup := by decide +kernel
  exact fn_mkD (k := 0) F sc_Cache_lose hb fun _ _ _ _ _ _ => (dss_cons (ds_if (dt_notIn (de_var 1 (hd := nd_topic)) (de_fld (fld_kept e) (de_var 0 (hd := nd_self)))) (dss_one (ds_ret de_bl)) dss_nil) (dss_cons (ds_del (de_fld (fld_kept e) (de_var 0 (hd := nd_self))) (de_var 1 (hd := nd_topic))) (dss_one (ds_ret de_bl))))
theorem mt_lose (e : Fx K mg) {lv : Nat} (hl : 1 ≤ lv) : ∀ c mm, List.lookup c ([(1, m_Cache_lose)] : MTab) = some mm → ∃ j, j ≤ lv ∧ MethD P w mg base (gg K) j c "lose" 1 mm := fun c mm h => by
  by_cases h1 : c = 1
  · subst h1
    cases h
    exact ⟨1, Nat.le_trans (by decide) hl, ⟨fun C hC => by cases hC; exact ⟨He.cls_ok (e.says.fact 42), _, He.meth_ok (e.says.fact 46), ok_Cache_lose e⟩⟩⟩
  simp [List.lookup, show (c == 1) = false from by simpa using h1] at h
theorem sc__law_spoilt : FnScope (["_law_state", "_law_script", "_law_cache", "_law_entries", "_law_topic", "_law_claim", "_law_there", "_law_choice", "_law_vouchers_here", "_law_after", "_law_gone", "_law_due", "_law_told", "_law_row"] : List Str) (["_law_state", "_law_script", "_law_cache", "_law_entries"] : List Str) (defScope s__law_spoilt) := ⟨rfl, rfl, rfl, by decide +kernel, rfl, by decide +kernel, by decide +kernel⟩
theorem ok__law_spoilt (e : Fx K mg) : FnD P w mg base (gg K) 9 (He.ga K "_law_spoilt") 4 m__law_spoilt := by
  obtain ⟨fd, F⟩ := e.says.def_ 26 rfl
  have hb := FunD.bindsN (ps := (["_law_state", "_law_script", "_law_cache", "_law_entries"] : List Str)) F fun _ _ _ _ _ _ us hl => match us, hl with | [_, _, _, _], _ => rfl
  have hN : ((["_law_state", "_law_script", "_law_cache", "_law_entries", "_law_topic", "_law_claim", "_law_there", "_law_choice", "_law_vouchers_here", "_law_after", "_law_gone", "_law_due", "_law_told", "_law_row"] : List Str)).Nodup := by decide +kernel
  exact fn_mkD (k := 8) F sc__law_spoilt hb fun _ _ _ _ _ _ => (dss_cons (ds_set (i := 4) hN (de_ix (de_call0 (fg__law_topics e (P := P) (w := w) (base := base)) (by decide) (hdb := nd__law_topics)) (de_call (fg__law_next e (P := P) (w := w) (base := base)) (by decide) (dan_cons (de_var 0 (hd := nd__law_state)) (dan_cons (de_var 1 (hd := nd__law_script)) (dan_cons de_int dan_nil))) (hdb := nd__law_next)))) (dss_cons (ds_set (i := 5) hN (de_ix (de_lst (da_cons (de_str [120] (by kernel_rfl)) (da_cons (de_str [] (by kernel_rfl)) (da_cons (de_str [122] (by kernel_rfl)) da_nil)))) (de_call (fg__law_next e (P := P) (w := w) (base := base)) (by decide) (dan_cons (de_var 0 (hd := nd__law_state)) (dan_cons (de_var 1 (hd := nd__law_script)) (dan_cons de_int dan_nil))) (hdb := nd__law_next)))) (dss_cons (ds_set (i := 6) hN (de_isnot (de_call (fg__law_entry e (P := P) (w := w) (base := base)) (by decide) (dan_cons (de_var 3 (hd := nd__law_entries)) (dan_cons (de_var 4 (hd := nd__law_topic)) dan_nil)) (hdb := nd__law_entry)) de_non)) (dss_cons (ds_set (i := 7) hN (de_call (fg__law_next e (P := P) (w := w) (base := base)) (by decide) (dan_cons (de_var 0 (hd := nd__law_state)) (dan_cons (de_var 1 (hd := nd__law_script)) (dan_cons de_int dan_nil))) (hdb := nd__law_next))) (dss_cons (ds_if (dt_eq (de_var 7 (hd := nd__law_choice)) de_int) (dss_cons (ds_set (i := 8) hN (de_ix (de_orV (de_call (fg__law_entry e (P := P) (w := w) (base := base)) (by decide) (dan_cons (de_var 3 (hd := nd__law_entries)) (dan_cons (de_var 4 (hd := nd__law_topic)) dan_nil)) (hdb := nd__law_entry)) (de_one (de_tup (da_cons (de_var 5 (hd := nd__law_claim)) (da_cons (de_tup da_nil) da_nil))))) de_int)) (dss_cons (ds_set (i := 9) hN (de_add (de_lc hN (own := [("_law_row", 13)]) (by show blkC (["_law_state", "_law_script", "_law_cache", "_law_entries", "_law_topic", "_law_claim", "_law_there", "_law_choice", "_law_vouchers_here", "_law_after", "_law_gone", "_law_due", "_law_told", "_law_row"] : List Str) (defScope s__law_spoilt) _ _ = true; decide +kernel) (by decide) (di_any (de_var 3 (hd := nd__law_entries))) (fun _ _ _ _ _ => (dg_name (i := 13) hN)) (fun _ _ _ _ _ => (dts_one (dt_ne (de_ix (de_var 13 (hd := nd__law_row)) de_int) (de_var 4 (hd := nd__law_topic))))) (fun _ _ _ _ _ => (de_var 13 (hd := nd__law_row)))) (de_lst (da_cons (de_tup (da_cons (de_var 4 (hd := nd__law_topic)) (da_cons (de_var 5 (hd := nd__law_claim)) (da_cons (de_var 8 (hd := nd__law_vouchers_here)) da_nil)))) da_nil)))) (dss_cons (ds_set (i := 10) hN (de_meth (de_var 2 (hd := nd__law_cache)) (mt_put e (P := P) (w := w) (base := base) (by decide)) nf_put (dan_cons (de_var 4 (hd := nd__law_topic)) (dan_cons (de_var 5 (hd := nd__law_claim)) (dan_cons (de_var 8 (hd := nd__law_vouchers_here)) dan_nil))))) (dss_cons (ds_set (i := 11) hN (de_ifExp (dt_lt (de_len (e.fr 1 rfl) (da_cons (de_var 9 (hd := nd__law_after)) da_nil)) de_int) de_non (de_ix (de_ix (de_var 9 (hd := nd__law_after)) de_int) de_int))) (dss_one (ds_ret (de_ifExp (dt_tru (de_call (fg__law_same e 8 (P := P) (w := w) (base := base)) (by decide) (dan_cons (de_var 10 (hd := nd__law_gone)) (dan_cons (de_var 11 (hd := nd__law_due)) dan_nil)) (hdb := nd__law_same))) (de_sl (de_var 9 (hd := nd__law_after)) (do_some (de_max2 (e.fr 11 rfl) (da_cons de_int (da_cons (de_sub (de_len (e.fr 1 rfl) (da_cons (de_var 9 (hd := nd__law_after)) da_nil)) de_int) da_nil)))) do_none) de_non))))))) dss_nil) (dss_cons (ds_if (dt_gt (de_var 7 (hd := nd__law_choice)) de_int) (dss_cons (ds_set (i := 12) hN (de_meth (de_var 2 (hd := nd__law_cache)) (mt_spoil e (P := P) (w := w) (base := base) (by decide)) nf_spoil (dan_cons (de_var 4 (hd := nd__law_topic)) (dan_cons (de_var 5 (hd := nd__law_claim)) dan_nil)))) (dss_cons (ds_set (i := 9) hN (de_lst da_nil)) (dss_one (ds_for (passes_of rfl) (di_any (de_var 3 (hd := nd__law_entries))) (dg_name (i := 13) hN) (dss_one (ds_expr (de_append (de_var 9 (hd := nd__law_after)) (da_cons (de_ix (de_lst (da_cons (de_var 13 (hd := nd__law_row)) (da_cons (de_tup (da_cons (de_var 4 (hd := nd__law_topic)) (da_cons (de_var 5 (hd := nd__law_claim)) (da_cons (de_ix (de_var 13 (hd := nd__law_row)) de_int) da_nil)))) da_nil))) (de_int1 (e.fr 0 rfl) (da_cons (de_eq (de_ix (de_var 13 (hd := nd__law_row)) de_int) (de_var 4 (hd := nd__law_topic))) da_nil))) da_nil)))))))) (dss_cons (ds_set (i := 12) hN (de_meth (de_var 2 (hd := nd__law_cache)) (mt_lose e (P := P) (w := w) (base := base) (by decide)) nf_lose (dan_cons (de_var 4 (hd := nd__law_topic)) dan_nil))) (dss_one (ds_setLc (i := 9) hN rfl rfl (sw_true rfl rfl rfl rfl) (own := [("_law_row", 13)]) (by show blkC (["_law_state", "_law_script", "_law_cache", "_law_entries", "_law_topic", "_law_claim", "_law_there", "_law_choice", "_law_vouchers_here", "_law_after", "_law_gone", "_law_due", "_law_told", "_law_row"] : List Str) (defScope s__law_spoilt) _ _ = true; decide +kernel) (by decide) (di_any (de_var 3 (hd := nd__law_entries))) (fun _ _ _ _ _ => (dg_name (i := 13) hN)) (fun _ _ _ _ _ => (dts_one (dt_ne (de_ix (de_var 13 (hd := nd__law_row)) de_int) (de_var 4 (hd := nd__law_topic))))) (fun _ _ _ _ _ => (de_var 13 (hd := nd__law_row))))))) (dss_cons (ds_if (DW.dt (dw_or (dt_not (dt_tru (de_isi .bl (e.fr 8 rfl) (e.fr 9 rfl) boot_bool (de_var 12 (hd := nd__law_told))))) (dw_or1 (dt_ne (de_var 12 (hd := nd__law_told)) (de_var 6 (hd := nd__law_there)))))) (dss_one (ds_ret de_non)) dss_nil) (dss_one (ds_ret (de_var 9 (hd := nd__law_after)))))))))))
theorem fg__law_spoilt (e : Fx K mg) : FnG P w mg base (gg K) 9 "_law_spoilt" 4 m__law_spoilt := ⟨_, e.gl 25 rfl, ok__law_spoilt e⟩
theorem sc_law : FnScope (["_law_script", "_law_state", "_law_need", "_law_roster", "_law_houses_here", "_law_signed", "_law_k", "_law_caches", "_law_kept_here", "_law_gone", "_law_house", "_law_turn", "_law_topic", "_law_claim", "_law_cache", "_law_entries", "_law_vouchers_here", "_law_after"] : List Str) (["_law_script"] : List Str) (defScope s_law) := ⟨rfl, rfl, rfl, by decide +kernel, rfl, by decide +kernel, by decide +kernel⟩
theorem okF_law (e : Fx K mg) {fd : FuncData} (F : FunD K "law" "law" (defArgs s_law) (defBody s_law) (defScope s_law) [] [] (He.ga K "law") fd) : FnOk P w K mg base (L2.CX P w) 11 (He.ga K "law") fd (["_law_script"] : List Str) (spD (gg K) 1 m_law) := by
  have hN : ((["_law_script", "_law_state", "_law_need", "_law_roster", "_law_houses_here", "_law_signed", "_law_k", "_law_caches", "_law_kept_here", "_law_gone", "_law_house", "_law_turn", "_law_topic", "_law_claim", "_law_cache", "_law_entries", "_law_vouchers_here", "_law_after"] : List Str)).Nodup := by decide +kernel
  exact fn_okD (g := gg K) (k := 10) F sc_law fun _ _ _ _ _ _ => (dss_cons (ds_set (i := 1) hN (de_lst (da_cons de_int (da_cons de_int (da_cons de_int da_nil))))) (dss_cons (ds_set (i := 2) hN (de_add de_int (de_call (fg__law_next e (P := P) (w := w) (base := base)) (by decide) (dan_cons (de_var 1 (hd := nd__law_state)) (dan_cons (de_var 0 (hd := nd__law_script)) (dan_cons de_int dan_nil))) (hdb := nd__law_next)))) (dss_cons (ds_set (i := 3) hN (de_make (mk_Roster e (P := P) (w := w) (base := base)) (by decide) (dan_cons (de_var 2 (hd := nd__law_need)) dan_nil) (hdb := nd_Roster))) (dss_cons (ds_set (i := 4) hN (de_call (fg__law_houses e (P := P) (w := w) (base := base)) (by decide) (dan_cons (de_var 3 (hd := nd__law_roster)) (dan_cons de_int dan_nil)) (hdb := nd__law_houses))) (dss_cons (ds_set (i := 5) hN (de_lst da_nil)) (dss_cons (ds_for (passes_of rfl) (di_range1 (e.fr 4 rfl) (da_cons (de_call (fg__law_next e (P := P) (w := w) (base := base)) (by decide) (dan_cons (de_var 1 (hd := nd__law_state)) (dan_cons (de_var 0 (hd := nd__law_script)) (dan_cons de_int dan_nil))) (hdb := nd__law_next)) da_nil)) (dg_name (i := 6) hN) (dss_cons (ds_set (i := 10) hN (de_ix (de_var 4 (hd := nd__law_houses_here)) (de_call (fg__law_next e (P := P) (w := w) (base := base)) (by decide) (dan_cons (de_var 1 (hd := nd__law_state)) (dan_cons (de_var 0 (hd := nd__law_script)) (dan_cons de_int dan_nil))) (hdb := nd__law_next)))) (dss_cons (ds_set (i := 12) hN (de_ix (de_call0 (fg__law_topics e (P := P) (w := w) (base := base)) (by decide) (hdb := nd__law_topics)) (de_call (fg__law_next e (P := P) (w := w) (base := base)) (by decide) (dan_cons (de_var 1 (hd := nd__law_state)) (dan_cons (de_var 0 (hd := nd__law_script)) (dan_cons de_int dan_nil))) (hdb := nd__law_next)))) (dss_cons (ds_set (i := 13) hN (de_ix (de_lst (da_cons (de_str [120] (by kernel_rfl)) (da_cons (de_str [] (by kernel_rfl)) da_nil))) (de_call (fg__law_next e (P := P) (w := w) (base := base)) (by decide) (dan_cons (de_var 1 (hd := nd__law_state)) (dan_cons (de_var 0 (hd := nd__law_script)) (dan_cons de_int dan_nil))) (hdb := nd__law_next)))) (dss_one (ds_expr (de_append (de_var 5 (hd := nd__law_signed)) (da_cons (de_tup (da_cons (de_var 10 (hd := nd__law_house)) (da_cons (de_meth (de_var 3 (hd := nd__law_roster)) (mt_sign e (P := P) (w := w) (base := base) (by decide)) nf_sign (dan_cons (de_var 10 (hd := nd__law_house)) (dan_cons (de_call (fg__law_words_of e (P := P) (w := w) (base := base)) (by decide) (dan_cons (de_var 12 (hd := nd__law_topic)) (dan_cons (de_var 13 (hd := nd__law_claim)) dan_nil)) (hdb := nd__law_words_of)) dan_nil))) (da_cons (de_var 12 (hd := nd__law_topic)) (da_cons (de_var 13 (hd := nd__law_claim)) da_nil))))) da_nil)))))))) (dss_cons (ds_set (i := 7) hN (de_lst da_nil)) (dss_cons (ds_set (i := 8) hN (de_lst da_nil)) (dss_cons (ds_for (passes_of rfl) (di_range1 (e.fr 4 rfl) (da_cons (de_call (fg__law_next e (P := P) (w := w) (base := base)) (by decide) (dan_cons (de_var 1 (hd := nd__law_state)) (dan_cons (de_var 0 (hd := nd__law_script)) (dan_cons de_int dan_nil))) (hdb := nd__law_next)) da_nil)) (dg_name (i := 6) hN) (dss_cons (ds_set (i := 14) hN (de_make (mk_Cache e (P := P) (w := w) (base := base)) (by decide) (dan_cons de_int dan_nil) (hdb := nd_Cache))) (dss_cons (ds_set (i := 15) hN (de_lst da_nil)) (dss_cons (ds_for (passes_of rfl) (di_any (de_ix (de_lst (da_cons (de_sl (de_call0 (fg__law_topics e (P := P) (w := w) (base := base)) (by decide) (hdb := nd__law_topics)) do_none (do_some de_int)) (da_cons (de_rev (de_call0 (fg__law_topics e (P := P) (w := w) (base := base)) (by decide) (hdb := nd__law_topics)) (do_some de_int) do_none) da_nil))) (de_call (fg__law_next e (P := P) (w := w) (base := base)) (by decide) (dan_cons (de_var 1 (hd := nd__law_state)) (dan_cons (de_var 0 (hd := nd__law_script)) (dan_cons de_int dan_nil))) (hdb := nd__law_next)))) (dg_name (i := 12) hN) (dss_one (ds_if (dt_gt (de_call (fg__law_next e (P := P) (w := w) (base := base)) (by decide) (dan_cons (de_var 1 (hd := nd__law_state)) (dan_cons (de_var 0 (hd := nd__law_script)) (dan_cons de_int dan_nil))) (hdb := nd__law_next)) de_int) (dss_cons (ds_set (i := 13) hN (de_ix (de_lst (da_cons (de_str [120] (by kernel_rfl)) (da_cons (de_str [] (by kernel_rfl)) da_nil))) (de_call (fg__law_next e (P := P) (w := w) (base := base)) (by decide) (dan_cons (de_var 1 (hd := nd__law_state)) (dan_cons (de_var 0 (hd := nd__law_script)) (dan_cons de_int dan_nil))) (hdb := nd__law_next)))) (dss_cons (ds_set (i := 16) hN (de_call (fg__law_vouchers e (P := P) (w := w) (base := base)) (by decide) (dan_cons (de_var 1 (hd := nd__law_state)) (dan_cons (de_var 0 (hd := nd__law_script)) (dan_cons (de_var 4 (hd := nd__law_houses_here)) (dan_cons (de_var 5 (hd := nd__law_signed)) dan_nil)))) (hdb := nd__law_vouchers))) (dss_cons (ds_expr (de_meth (de_var 14 (hd := nd__law_cache)) (mt_put e (P := P) (w := w) (base := base) (by decide)) nf_put (dan_cons (de_var 12 (hd := nd__law_topic)) (dan_cons (de_var 13 (hd := nd__law_claim)) (dan_cons (de_var 16 (hd := nd__law_vouchers_here)) dan_nil))))) (dss_one (ds_expr (de_append (de_var 15 (hd := nd__law_entries)) (da_cons (de_tup (da_cons (de_var 12 (hd := nd__law_topic)) (da_cons (de_var 13 (hd := nd__law_claim)) (da_cons (de_var 16 (hd := nd__law_vouchers_here)) da_nil)))) da_nil))))))) dss_nil))) (dss_cons (ds_expr (de_append (de_var 7 (hd := nd__law_caches)) (da_cons (de_var 14 (hd := nd__law_cache)) da_nil))) (dss_one (ds_expr (de_append (de_var 8 (hd := nd__law_kept_here)) (da_cons (de_var 15 (hd := nd__law_entries)) da_nil))))))))) (dss_cons (ds_setLc (i := 9) hN rfl rfl (sw_true rfl rfl rfl rfl) (own := [("_law_house", 10)]) (by show blkC (["_law_script", "_law_state", "_law_need", "_law_roster", "_law_houses_here", "_law_signed", "_law_k", "_law_caches", "_law_kept_here", "_law_gone", "_law_house", "_law_turn", "_law_topic", "_law_claim", "_law_cache", "_law_entries", "_law_vouchers_here", "_law_after"] : List Str) (defScope s_law) _ _ = true; decide +kernel) (by decide) (di_any (de_var 4 (hd := nd__law_houses_here))) (fun _ _ _ _ _ => (dg_name (i := 10) hN)) (fun _ _ _ _ _ => (dts_one (dt_eq (de_call (fg__law_next e (P := P) (w := w) (base := base)) (by decide) (dan_cons (de_var 1 (hd := nd__law_state)) (dan_cons (de_var 0 (hd := nd__law_script)) (dan_cons de_int dan_nil))) (hdb := nd__law_next)) de_int))) (fun _ _ _ _ _ => (de_var 10 (hd := nd__law_house)))) (dss_cons (ds_for (passes_of rfl) (di_any (de_var 9 (hd := nd__law_gone))) (dg_name (i := 10) hN) (dss_one (ds_expr (de_meth (de_var 3 (hd := nd__law_roster)) (mt_revoke e (P := P) (w := w) (base := base) (by decide)) nf_revoke (dan_cons (de_var 10 (hd := nd__law_house)) dan_nil))))) (dss_cons (ds_for (passes_of rfl) (di_range1 (e.fr 4 rfl) (da_cons de_int da_nil)) (dg_name (i := 11) hN) (dss_cons (ds_if (dt_not (dt_tru (de_call (fg__law_looked e (P := P) (w := w) (base := base)) (by decide) (dan_cons (de_var 7 (hd := nd__law_caches)) (dan_cons (de_var 8 (hd := nd__law_kept_here)) (dan_cons (de_var 3 (hd := nd__law_roster)) (dan_cons (de_var 5 (hd := nd__law_signed)) (dan_cons (de_var 9 (hd := nd__law_gone)) (dan_cons (de_var 2 (hd := nd__law_need)) dan_nil)))))) (hdb := nd__law_looked)))) (dss_one (ds_ret de_bl)) dss_nil) (dss_one (ds_for (passes_of rfl) (di_range1 (e.fr 4 rfl) (da_cons (de_len (e.fr 1 rfl) (da_cons (de_var 7 (hd := nd__law_caches)) da_nil)) da_nil)) (dg_name (i := 6) hN) (dss_one (ds_if (dt_eq (de_call (fg__law_next e (P := P) (w := w) (base := base)) (by decide) (dan_cons (de_var 1 (hd := nd__law_state)) (dan_cons (de_var 0 (hd := nd__law_script)) (dan_cons de_int dan_nil))) (hdb := nd__law_next)) de_int) (dss_cons (ds_set (i := 17) hN (de_call (fg__law_spoilt e (P := P) (w := w) (base := base)) (by decide) (dan_cons (de_var 1 (hd := nd__law_state)) (dan_cons (de_var 0 (hd := nd__law_script)) (dan_cons (de_ix (de_var 7 (hd := nd__law_caches)) (de_var 6 (hd := nd__law_k))) (dan_cons (de_ix (de_var 8 (hd := nd__law_kept_here)) (de_var 6 (hd := nd__law_k))) dan_nil)))) (hdb := nd__law_spoilt))) (dss_cons (ds_if (dt_is (de_var 17 (hd := nd__law_after)) de_non) (dss_one (ds_ret de_bl)) dss_nil) (dss_one (ds_sub (de_var 8 (hd := nd__law_kept_here)) (de_var 6 (hd := nd__law_k)) (de_var 17 (hd := nd__law_after)))))) dss_nil)))))) (dss_one (ds_ret (de_call (fg__law_looked e (P := P) (w := w) (base := base)) (by decide) (dan_cons (de_var 7 (hd := nd__law_caches)) (dan_cons (de_var 8 (hd := nd__law_kept_here)) (dan_cons (de_var 3 (hd := nd__law_roster)) (dan_cons (de_var 5 (hd := nd__law_signed)) (dan_cons (de_var 9 (hd := nd__law_gone)) (dan_cons (de_var 2 (hd := nd__law_need)) dan_nil)))))) (hdb := nd__law_looked))))))))))))))))
theorem lawGlo (e : Fx K mg) : mg "law" = some (.ref (He.ga K "law")) := e.gl 26 rfl
def lawIx : Nat := 27
end
def lawLevel : Nat := 11
end K39
end OfK39

section OfK39A
set_option Elab.async false
set_option linter.all false
set_option maxRecDepth 100000
namespace K39
open PySem PySem.Spec PyProof.Rows L2 DL

abbrev Txt := List Nat
theorem fld_eq {S : Sto} {r c i : Nat} {fs : List (Nat × D)} {cs : List Nat} {x : D} {Q : D → Sto → Prop} (h : S[r]? = some (.ins c fs)) (hc : cs.contains c = true) (hx : fs.lookup i = some x) :
    (∃ r' c' fs' x', D.ref r = .ref r' ∧ S[r']? = some (.ins c' fs') ∧ cs.contains c' = true ∧ fs'.lookup i = some x' ∧ Q x' S) = Q x S := by
  apply propext; constructor
  · rintro ⟨r', c', fs', x', e1, e2, _, e3, q⟩
    cases e1
    rw [h] at e2
    cases e2
    rw [hx] at e3
    cases e3
    exact q
  · intro q
    exact ⟨r, c, fs, x, rfl, h, hc, hx, q⟩
theorem leL {n : Nat} (h : n ≤ 1000) : n ≤ LINE := Nat.le_trans h (by decide)
theorem ltL {n : Nat} (h : n ≤ 1000) : n < LINE := Nat.lt_of_le_of_lt h (by decide)
theorem sInt_len : ∀ n : Nat, n < 64 → (sInt (n : Int)).length ≤ 2 := by
  have h : ∀ n ∈ List.range 64, (sInt (n : Int)).length ≤ 2 := by decide +kernel
  intro n hn
  exact h n (List.mem_range.mpr hn)
def wd (t c : Txt) : Txt := sInt (t.length : Int) ++ [58] ++ t ++ c
theorem words_ok {S : Sto} {t c : Txt} (ht : t.length < 64) (hc : c.length < 64) : Ok (m_words_of [.str t, .str c] S) fun r S' => r = .str (wd t c) ∧ S' = S := by
  refine ok_def rfl ?_
  have h1 := sInt_len t.length ht
  have h2 : t.length ≤ LINE := Nat.le_trans (Nat.le_of_lt ht) (by decide)
  have h3 : c.length ≤ LINE := Nat.le_trans (Nat.le_of_lt hc) (by decide)
  have h4 : smallI (t.length : Int) = true := smallI_of (by omega) (by omega)
  have hl : ∀ n, n ≤ 200 → n ≤ LINE := fun n h => Nat.le_trans h (by decide)
  have hE : env0 2 [.str t, .str c] = [some (.str t), some (.str c)] := rfl
  rw [hE]
  unfold b_words_of
  simp only [sok_ret, ok_join, ok_jsN_cons, ok_jsN_nil, ok_fmt, ok_eA, ok_aCons, ok_aNil, ok_var0, ok_varS, ok_lenS, ok_c]
  refine ⟨h2, .inr ⟨_, rfl, h4, _, rfl, hl _ (by simp; omega), _, rfl, hl _ (by simp; omega), .inl ⟨_, rfl, h2, _, rfl, hl _ (by simp; omega), .inl ⟨_, rfl, h3, _, rfl, hl _ (by simp; omega), ?_⟩⟩⟩⟩
  simp [wd]
theorem lwords_ok {S : Sto} {t c : Txt} (ht : t.length < 64) (hc : c.length < 64) : Ok (m__law_words_of [.str t, .str c] S) fun r S' => r = .str (wd t c) ∧ S' = S := by
  refine ok_def rfl ?_
  have h1 := sInt_len t.length ht
  have h2 : t.length ≤ LINE := Nat.le_trans (Nat.le_of_lt ht) (by decide)
  have h4 : smallI (t.length : Int) = true := smallI_of (by omega) (by omega)
  have hl : ∀ n, n ≤ 200 → n ≤ LINE := fun n h => Nat.le_trans h (by decide)
  have hE : env0 2 [.str t, .str c] = [some (.str t), some (.str c)] := rfl
  rw [hE]
  unfold b__law_words_of
  simp only [sok_ret, ok_e2, ok_eA, ok_aCons, ok_aNil, ok_var0, ok_varS, ok_lenS, ok_c, ok_strI h4, ok_addS]
  refine ⟨h2, hl _ (by simp; omega), hl _ (by simp; omega), hl _ (by simp; omega), ?_⟩
  simp [wd]
theorem next39 {S : Sto} {st sc : Nat} {a b c m : Int} {ns : List Int} (h0 : S[st]? = some (.lst [.int a, .int b, .int c])) (h1 : S[sc]? = some (.frz (ns.map D.int))) (ha : 0 ≤ a) (hm : 0 < m) (hm2 : m < 1073741824) :
    Ok (m__law_next [.ref st, .ref sc, .int m] S) fun r S' => ∃ i a' b' c' : Int, r = .int i ∧ 0 ≤ i ∧ i < m ∧ 0 ≤ a' ∧ S' = S.set st (.lst [.int a', .int b', .int c']) := next_ok h0 h1 ha hm hm2
theorem same39 : ∀ (k : Nat) (d : D) (S : Sto), plainD k d = true → Ok (m__law_same k [d, d] S) fun r S' => r = .bl true ∧ S' = S
  | 0, d, S, h => by simp [plainD] at h
  | k + 1, d, S, h => same_step (same39 k) d S h

/-! ### the roster -/
structure Row where
  h : Txt
  m : Txt
  t : Txt
  c : Txt
def Row.d (r : Row) : D := .tup [.str r.h, .str r.m, .str r.t, .str r.c]
def Row.sig (r : Row) : D × D := (.str r.m, .tup [.str r.h, .str (wd r.t r.c)])
def houses : List Txt := [[104, 48], [104, 49], [104, 50], [104, 51], [104, 52]]
structure Ros (S : Sto) (need : Int) (rows : List Row) (gone : List Txt) : Prop where
  ins : S[2]? = some (.ins 0 [(0, .int need), (1, .ref 3), (2, .ref 4), (3, .ref 5), (4, .ref 6)])
  sd : S[3]? = some (.dic (houses.map fun h => (.str h, .int 0)))
  rv : S[4]? = some (.dic (gone.map fun h => (.str h, .bl true)))
  sg : S[5]? = some (.dic (rows.map Row.sig))
variable {S S' : Sto} {need : Int} {rows : List Row} {gone : List Txt}
theorem Ros.kp {M : List Nat} (R : Ros S need rows gone) (k : Kp M S S') (h2 : 2 ∉ M) (h3 : 3 ∉ M) (h4 : 4 ∉ M) (h5 : 5 ∉ M) : Ros S' need rows gone := ⟨k.at R.ins h2, k.at R.sd h3, k.at R.rv h4, k.at R.sg h5⟩
def fQ (S : Sto) (r i : Nat) (cs : List Nat) (Q : D → Sto → Prop) : Prop := ∃ r' c' fs' x', D.ref r = .ref r' ∧ S[r']? = some (.ins c' fs') ∧ cs.contains c' = true ∧ fs'.lookup i = some x' ∧ Q x' S
theorem Ros.f0 (R : Ros S need rows gone) {Q : D → Prop} : (∃ r' c' fs' x', D.ref 2 = .ref r' ∧ S[r']? = some (.ins c' fs') ∧ [0].contains c' = true ∧ fs'.lookup 0 = some x' ∧ Q x') = Q (.int need) := fld_eq (Q := fun d _ => Q d) R.ins rfl rfl
theorem Ros.f1 (R : Ros S need rows gone) {Q : D → Prop} : (∃ r' c' fs' x', D.ref 2 = .ref r' ∧ S[r']? = some (.ins c' fs') ∧ [0].contains c' = true ∧ fs'.lookup 1 = some x' ∧ Q x') = Q (.ref 3) := fld_eq (Q := fun d _ => Q d) R.ins rfl rfl
theorem Ros.f2 (R : Ros S need rows gone) {Q : D → Prop} : (∃ r' c' fs' x', D.ref 2 = .ref r' ∧ S[r']? = some (.ins c' fs') ∧ [0].contains c' = true ∧ fs'.lookup 2 = some x' ∧ Q x') = Q (.ref 4) := fld_eq (Q := fun d _ => Q d) R.ins rfl rfl
theorem Ros.f3 (R : Ros S need rows gone) {Q : D → Prop} : (∃ r' c' fs' x', D.ref 2 = .ref r' ∧ S[r']? = some (.ins c' fs') ∧ [0].contains c' = true ∧ fs'.lookup 3 = some x' ∧ Q x') = Q (.ref 5) := fld_eq (Q := fun d _ => Q d) R.ins rfl rfl
theorem get_gone (x : Txt) : ∀ gone : List Txt, (dGet (gone.map fun h => (D.str h, D.bl true)) (.str x)).isSome = gone.contains x
  | [] => rfl
  | g :: r => by
    have ih := get_gone x r
    by_cases e : g = x
    · subst e
      simp [dGet, keq]
    · have e2 : ¬ x = g := fun z => e z.symm
      simp [dGet, keq, e, e2] at ih ⊢
      exact ih
theorem get_sig (x : Txt) : ∀ rows : List Row, dGet (rows.map Row.sig) (.str x) = (rows.find? fun r => r.m == x).map fun r => .tup [.str r.h, .str (wd r.t r.c)]
  | [] => rfl
  | r :: rs => by
    have ih := get_sig x rs
    by_cases e : r.m = x
    · subst e
      simp [dGet, keq, Row.sig]
    · simp [dGet, keq, Row.sig, e] at ih ⊢
      exact ih
def cnt (rows : List Row) (gone : List Txt) (m h w : Txt) : Bool := !gone.contains h && match rows.find? (fun r => r.m == m) with
  | some r => r.h == h && wd r.t r.c == w
  | none => false
theorem revoked_ok (R : Ros S need rows gone) (h : Txt) : Ok (m_Roster_is_revoked [.ref 2, .str h] S) fun r S' => r = .bl (gone.contains h) ∧ S' = S := by
  refine ok_def rfl ?_
  have hE : env0 2 [.ref 2, .str h] = [some (.ref 2), some (.str h)] := rfl
  rw [hE]
  unfold b_Roster_is_revoked
  simp only [sok_ret, ok_e2, ok_var0, ok_varS, ok_fld, R.f2, ok_in (oInB_dic (k := .str h) R.rv rfl), get_gone]
  exact ⟨trivial, trivial⟩
theorem counts_ok (R : Ros S need rows gone) (m h w : Txt) : Ok (m_Roster_counts [.ref 2, .str m, .str h, .str w] S) fun r S' => r = .bl (cnt rows gone m h w) ∧ S' = S := by
  refine ok_def rfl ?_
  have hE : env0 4 [.ref 2, .str m, .str h, .str w] = [some (.ref 2), some (.str m), some (.str h), some (.str w)] := rfl
  rw [hE]
  unfold b_Roster_counts
  refine SOk.seq ?_
  rw [sok_if, ok_tTru]
  refine ok_meth (r := 2) (c := 0) (fs := [(0, .int need), (1, .ref 3), (2, .ref 4), (3, .ref 5), (4, .ref 6)]) (mm := m_Roster_is_revoked) ?_
  simp only [ok_var0, ok_varS, ok_aCons, ok_aNil]
  refine ⟨trivial, R.ins, rfl, (revoked_ok R h).mono fun r S' ⟨e1, e2⟩ => ?_⟩
  subst e1 e2
  refine ⟨_, rfl, ?_⟩
  cases hg : gone.contains h with
  | true => simp only [if_true, sok_ret, ok_c]; exact ⟨by unfold cnt; rw [hg]; rfl, trivial⟩
  | false =>
    simp only [Bool.false_eq_true, if_false, sok_next, sok_ret, ok_e2, ok_get1, ok_fld, ok_var0, ok_varS, R.f3, dicAt_of R.sg, Option.isSome_some, true_and, ok_eTup, ok_aCons, ok_aNil, get_sig]
    refine ⟨_, _, rfl, rfl, leL (by simp), ?_⟩
    rw [get_sig]
    cases hf : rows.find? (fun r => r.m == m) with
    | none =>
      simp only [Option.map_none, Option.getD_none]
      rw [ok_eq (r := false) rfl]
      simp [cnt, hg, hf]
    | some r =>
      simp only [Option.map_some, Option.getD_some]
      rw [ok_eq (r := (r.h == h && (wd r.t r.c == w && true))) rfl]
      refine ⟨?_, rfl⟩
      unfold cnt
      rw [hg, hf]
      simp
end K39
end OfK39A

section OfK39B
set_option Elab.async false
set_option linter.all false
set_option maxRecDepth 100000
namespace K39
open PySem PySem.Spec PyProof.Rows L2 DL

/-! ### caches -/
structure Ent where
  t : Txt
  c : Txt
  vs : List (Txt × Txt)
def vD (v : Txt × Txt) : D := .tup [.str v.1, .str v.2]
def Ent.val (e : Ent) : D := .tup [.str e.c, .tup (e.vs.map vD)]
def Ent.kv (e : Ent) : D × D := (.str e.t, e.val)
def Ent.row (e : Ent) : D := .tup [.str e.t, .str e.c, .tup (e.vs.map vD)]
structure Cac (S : Sto) (ci kd : Nat) (es : List Ent) : Prop where
  ins : S[ci]? = some (.ins 1 [(5, .int 3), (6, .ref kd)])
  kd : S[kd]? = some (.dic (es.map Ent.kv))
variable {S S' : Sto} {need : Int} {rows : List Row} {gone : List Txt} {ci kd : Nat} {es : List Ent}
theorem Cac.kp {M : List Nat} (R : Cac S ci kd es) (k : Kp M S S') (h2 : ci ∉ M) (h3 : kd ∉ M) : Cac S' ci kd es := ⟨k.at R.ins h2, k.at R.kd h3⟩
theorem Cac.f5 (R : Cac S ci kd es) {Q : D → Prop} : (∃ r' c' fs' x', D.ref ci = .ref r' ∧ S[r']? = some (.ins c' fs') ∧ [1].contains c' = true ∧ fs'.lookup 5 = some x' ∧ Q x') = Q (.int 3) := fld_eq (Q := fun d _ => Q d) R.ins rfl rfl
theorem Cac.f6 (R : Cac S ci kd es) {Q : D → Prop} : (∃ r' c' fs' x', D.ref ci = .ref r' ∧ S[r']? = some (.ins c' fs') ∧ [1].contains c' = true ∧ fs'.lookup 6 = some x' ∧ Q x') = Q (.ref kd) := fld_eq (Q := fun d _ => Q d) R.ins rfl rfl
def entOf (es : List Ent) (t : Txt) : Option Ent := es.find? fun e => e.t == t
def entD (es : List Ent) (t : Txt) : D := ((entOf es t).map Ent.val).getD .non
theorem get_ent (x : Txt) : ∀ es : List Ent, dGet (es.map Ent.kv) (.str x) = (entOf es x).map Ent.val
  | [] => rfl
  | r :: rs => by
    have ih := get_ent x rs
    unfold entOf at ih ⊢
    by_cases e : r.t = x
    · subst e
      simp [dGet, keq, Ent.kv]
    · simp [dGet, keq, Ent.kv, e] at ih ⊢
      exact ih
theorem entry_ok (R : Cac S ci kd es) (t : Txt) : Ok (m_Cache_entry [.ref ci, .str t] S) fun r S' => r = entD es t ∧ S' = S := by
  refine ok_def rfl ?_
  have hE : env0 2 [.ref ci, .str t] = [some (.ref ci), some (.str t)] := rfl
  rw [hE]
  unfold b_Cache_entry
  simp only [sok_ret, ok_get1, ok_fld, ok_var0, ok_varS, R.f6, dicAt_of R.kd, Option.isSome_some, true_and]
  refine ⟨_, _, rfl, rfl, ?_, trivial⟩
  rw [get_ent]
  rfl
theorem topics_ok (R : Cac S ci kd es) : Ok (m_Cache_topics [.ref ci] S) fun r S' => r = .tup (es.map fun e => .str e.t) ∧ S' = S := by
  refine ok_def rfl ?_
  have hE : env0 1 [.ref ci] = [some (.ref ci)] := rfl
  rw [hE]
  unfold b_Cache_topics
  simp only [sok_ret, ok_eA, ok_aCons, ok_aNil, ok_fld, ok_var0, ok_varS, R.f6, ok_tupD R.kd]
  refine ⟨?_, trivial⟩
  simp [List.map_map, Function.comp_def, Ent.kv]
theorem lentry_ok {en : Nat} (h : S[en]? = some (.lst (es.map Ent.row))) (t : Txt) : Ok (m__law_entry [.ref en, .str t] S) fun r S' => r = entD es t ∧ S' = S := by
  refine ok_def rfl ?_
  have hE : env0 3 [.ref en, .str t] = [some (.ref en), some (.str t), none] := rfl
  rw [hE]
  unfold b__law_entry
  refine SOk.seq ?_
  refine sok_forL (ds := es.map Ent.row) (r := en) (fun i E S' => S' = S ∧ (∃ x, E = [some (.ref en), some (.str t), x]) ∧ ∀ e ∈ es.take i, ¬ e.t = t) ?_
  simp only [ok_var0]
  refine ⟨trivial, h, ⟨trivial, ⟨_, rfl⟩, by simp⟩, fun i E S' hI => by rw [hI.1]; exact h, ?_, ?_⟩
  · rintro i d E S' hd ⟨rfl, ⟨x, rfl⟩, hn⟩
    rw [List.getElem?_map] at hd
    obtain ⟨e, he, rfl⟩ := Option.map_eq_some_iff.mp hd
    refine ⟨_, rfl, ?_⟩
    have i0 : ∀ {Q : D → Sto → Prop}, Ok (oIx (Ent.row e) (.int 0) S') Q = Q (.str e.t) S' := fun {Q} => ok_ixT rfl
    have i1 : ∀ {Q : D → Sto → Prop}, Ok (oIx (Ent.row e) (.int 1) S') Q = Q (.str e.c) S' := fun {Q} => ok_ixT rfl
    have i2 : ∀ {Q : D → Sto → Prop}, Ok (oIx (Ent.row e) (.int 2) S') Q = Q (.tup (e.vs.map vD)) S' := fun {Q} => ok_ixT rfl
    simp only [List.set_cons_succ, List.set_cons_zero, sok_if, ok_tOfE, ok_e2, ok_var0, ok_varS, ok_c, i0, ok_eqS, D.bl.injEq, exists_eq_left', beq_iff_eq]
    by_cases ht : e.t = t
    · rw [if_pos ht]
      simp only [sok_ret, ok_eTup, ok_aCons, ok_aNil, ok_e2, ok_var0, ok_varS, ok_c, i1, i2]
      refine ⟨leL (by simp), ?_, trivial⟩
      have hf : entOf es t = some e := by
        unfold entOf
        have hlt := (List.getElem?_eq_some_iff.mp he).1
        rw [List.find?_eq_some_iff_append]
        refine ⟨by simpa using ht, es.take i, es.drop (i + 1), ?_, fun a ha => by simpa using hn a ha⟩
        have e1 : es[i] = e := (List.getElem?_eq_some_iff.mp he).2
        rw [← e1]
        simp
      unfold entD
      rw [hf]
      rfl
    · rw [if_neg ht, sok_next]
      refine ⟨rfl, ⟨_, rfl⟩, fun a ha => ?_⟩
      have htake : es.take (i + 1) = es.take i ++ [e] := by rw [List.take_succ, he]; rfl
      rw [htake, List.mem_append, List.mem_singleton] at ha
      rcases ha with ha | ha
      · exact hn a ha
      · subst ha; exact ht
  · rintro E S' ⟨rfl, ⟨x, rfl⟩, hn⟩
    simp only [sok_ret, ok_c]
    refine ⟨?_, trivial⟩
    rw [List.length_map, List.take_length] at hn
    have hf : entOf es t = none := by
      unfold entOf
      rw [List.find?_eq_none]
      intro e he
      simpa using hn e he
    unfold entD
    rw [hf]
    rfl
theorem topics4 : Ok (m__law_topics [] S) fun r S' => r = .ref S.length ∧ S' = S ++ [.lst [.str [116], .str [109, 97, 100, 101, 10], .str [116, 111, 112, 105, 99, 32, 49, 50], .str []]] := by
  refine ok_def rfl ?_
  have hE : env0 0 [] = [] := rfl
  rw [hE]
  unfold b__law_topics
  simp only [sok_ret, ok_eLst, ok_aCons, ok_aNil, ok_c]
  exact ⟨leL (by simp), trivial, trivial⟩
end K39
end OfK39B

section OfK39C
set_option Elab.async false
set_option linter.all false
set_option maxRecDepth 100000
namespace K39
open PySem PySem.Spec PyProof.Rows L2 DL

variable {S S' : Sto} {need : Int} {rows : List Row} {gone : List Txt} {ci kd : Nat} {es : List Ent}
/-- sizes -/
def EOk (es : List Ent) : Prop := ∀ e ∈ es, e.t.length < 64 ∧ e.c.length < 64 ∧ e.vs.length ≤ 60
def okv (rows : List Row) (gone : List Txt) (t c : Txt) (v : Txt × Txt) : Bool := cnt rows gone v.2 v.1 (wd t c)
def gcl (rows : List Row) (gone : List Txt) (need : Int) (es : List Ent) (t : Txt) : D := match entOf es t with
  | none => .non
  | some e => if need ≤ ((ddK ((e.vs.filter (okv rows gone t e.c)).map (·.1))).length : Int) then .str e.c else .non
theorem entOf_mem {t : Txt} {e : Ent} (h : entOf es t = some e) : e ∈ es ∧ e.t = t := by
  unfold entOf at h
  exact ⟨List.mem_of_find?_eq_some h, by simpa using List.find?_some h⟩
theorem good_ok (R : Ros S need rows gone) (C : Cac S ci kd es) (hs : EOk es) {t : Txt} (ht : t.length < 64) : Ok (m_good_claim [.ref ci, .ref 2, .str t] S) fun r S' => r = gcl rows gone need es t ∧ Kp [] S S' := by
  refine ok_def rfl ?_
  have hE : env0 10 [.ref ci, .ref 2, .str t] = [some (.ref ci), some (.ref 2), some (.str t), none, none, none, none, none, none, none] := rfl
  rw [hE]
  unfold b_good_claim
  refine SOk.seq ?_
  rw [sok_asg]
  refine ok_meth (r := ci) (c := 1) (fs := [(5, .int 3), (6, .ref kd)]) (mm := m_Cache_entry) ?_
  simp only [ok_var0, ok_varS, ok_aCons, ok_aNil]
  refine ⟨trivial, C.ins, rfl, (entry_ok C t).mono fun r S1 ⟨e1, e2⟩ => ?_⟩
  subst e1 e2
  simp only [gNm, List.set_cons_succ, List.set_cons_zero, Option.some.injEq, exists_eq_left']
  refine SOk.seq ?_
  cases he : entOf es t with
  | none =>
    have e0 : entD es t = .non := by unfold entD; rw [he]; rfl
    simp only [e0, sok_if, ok_tOfE, ok_e2, ok_var0, ok_varS, ok_c, ok_isN, isNon_non, D.bl.injEq, exists_eq_left', if_true, sok_ret]
    exact ⟨by unfold gcl; rw [he], .refl⟩
  | some e =>
    have e0 : entD es t = e.val := by unfold entD; rw [he]; rfl
    obtain ⟨hm, _⟩ := entOf_mem he
    obtain ⟨h1, h2, h3⟩ := hs e hm
    have hn : isNon e.val = false := rfl
    simp only [e0, sok_if, ok_tOfE, ok_e2, ok_var0, ok_varS, ok_c, ok_isN, hn, D.bl.injEq, exists_eq_left', Bool.false_eq_true, if_false, sok_next]
    refine SOk.seq ?_
    rw [sok_asg]
    simp only [ok_var0, ok_varS]
    refine ⟨_, rfl, ?_⟩
    refine SOk.seq ?_
    simp only [sok_asg, ok_eA, ok_aCons, ok_aNil, ok_var0, ok_varS, List.set_cons_succ, List.set_cons_zero]
    refine (words_ok ht h2).mono fun r S2 ⟨e3, e4⟩ => ?_
    subst e3 e4
    refine ⟨_, rfl, ?_⟩
    refine SOk.seq ?_
    simp only [sok_asg, List.set_cons_succ, List.set_cons_zero]
    refine ok_dcM (α := Txt × Txt) e.vs vD (okv rows gone t e.c) (fun v => .str v.1) (fun _ => .bl true) (fun _ _ => rfl) ?_
    simp only [ok_iAny, ok_var0, ok_varS, anyQ_tup]
    refine ⟨by simp [srcVals], leL (by omega), fun S' _ => srcVals_at _ _, fun v hv S' k => ⟨_, rfl, ?_⟩, fun S' k hD => ?_⟩
    · rw [ok_tTru]
      refine ok_meth (r := 2) (c := 0) (fs := [(0, .int need), (1, .ref 3), (2, .ref 4), (3, .ref 5), (4, .ref 6)]) (mm := m_Roster_counts) ?_
      simp only [wipeE, List.set_cons_succ, List.set_cons_zero, ok_var0, ok_varS, ok_aCons, ok_aNil]
      have R' := R.kp k (by simp) (by simp) (by simp) (by simp)
      refine ⟨trivial, R'.ins, rfl, (counts_ok R' v.2 v.1 (wd t e.c)).mono fun r S3 ⟨f1, f2⟩ => ?_⟩
      subst f1 f2
      refine ⟨_, rfl, rfl, .refl, fun _ => ?_⟩
      simp only [ok_var0, ok_varS, ok_c]
      exact ⟨trivial, trivial, .refl⟩
    · refine ⟨_, rfl, ?_⟩
      have R' := R.kp k (by simp) (by simp) (by simp) (by simp)
      simp only [gNm, List.set_cons_succ, List.set_cons_zero, sok_ret, ok_eIf, ok_tOfE, ok_e2, ok_eA, ok_aCons, ok_aNil, ok_var0, ok_varS, ok_lenD hD, ok_fld, R'.f0, ok_ge, D.bl.injEq, exists_eq_left', len_fold, decide_eq_true_eq]
      unfold gcl
      rw [he]
      by_cases hle : need ≤ ((ddK ((e.vs.filter (okv rows gone t e.c)).map (·.1))).length : Int)
      · rw [if_pos hle]
        simp only [ok_var0, ok_varS]
        rw [if_pos hle]
        exact ⟨rfl, k⟩
      · rw [if_neg hle]
        simp only [ok_c]
        rw [if_neg hle]
        exact ⟨rfl, k⟩
/-! ### the law's own -/
def ok2 (rows : List Row) (gone : List Txt) (t c : Txt) (v : Txt × Txt) : Bool := ((rows.filter fun r => (r.t == t && (r.c == c && true)) && !gone.contains r.h).map fun r => (r.h, r.m)).any fun w => w.1 == v.1 && (w.2 == v.2 && true)
def lgo (rows : List Row) (gone : List Txt) (need : Int) (es : List Ent) (t : Txt) : D := match entOf es t with
  | none => .tup [.non, .tup []]
  | some e => if ((ddK ((e.vs.filter (ok2 rows gone t e.c)).map (·.1))).length : Int) < need then .tup [.non, .tup []] else .tup [.str e.c, .tup ((e.vs.filter (ok2 rows gone t e.c)).map vD)]
theorem any_contains (h : Txt) : ∀ l : List Txt, (l.any fun x => x == h) = l.contains h
  | [] => rfl
  | a :: r => by
    rw [List.any_cons, List.contains_cons, any_contains h r]
    by_cases e : a = h
    · subst e; simp
    · have e2 : ¬ h = a := fun z => e z.symm
      have e3 : (a == h) = false := by simpa using e
      have e4 : (h == a) = false := by simpa using e2
      rw [e3, e4]
theorem gone_in {gl : Nat} (hg : S[gl]? = some (.lst (gone.map D.str))) (h : Txt) : oInB (.str h) (.ref gl) S = some (gone.contains h) := by
  rw [oInB_lst hg, anyEq_map (h := fun x => x == h) (fun x => rfl), any_contains]
theorem lgood_ok {sl gl : Nat} (hr : S[sl]? = some (.lst (rows.map Row.d))) (hg : S[gl]? = some (.lst (gone.map D.str))) (hs : EOk es) (hrl : rows.length ≤ 60) (t : Txt) : Ok (m__law_good [.ref sl, .ref gl, .int need, .str t, entD es t] S) fun r S' => r = lgo rows gone need es t ∧ Kp [] S S' := by
  refine ok_def rfl ?_
  have hE : env0 9 [.ref sl, .ref gl, .int need, .str t, entD es t] = [some (.ref sl), some (.ref gl), some (.int need), some (.str t), some (entD es t), none, none, none, none] := rfl
  rw [hE]
  unfold b__law_good
  refine SOk.seq ?_
  cases he : entOf es t with
  | none =>
    have e0 : entD es t = .non := by unfold entD; rw [he]; rfl
    simp only [e0, sok_if, ok_tOfE, ok_e2, ok_var0, ok_varS, ok_c, ok_isN, isNon_non, D.bl.injEq, exists_eq_left', if_true, sok_ret, ok_eTup, ok_aCons, ok_aNil]
    exact ⟨leL (by simp), leL (by simp), by unfold lgo; rw [he], .refl⟩
  | some e =>
    have e0 : entD es t = .tup [.str e.c, .tup (e.vs.map vD)] := by unfold entD; rw [he]; rfl
    obtain ⟨hm, _⟩ := entOf_mem he
    obtain ⟨h1, h2, h3⟩ := hs e hm
    have i0 : ∀ {S : Sto} {Q : D → Sto → Prop}, Ok (oIx (.tup [.str e.c, .tup (e.vs.map vD)]) (.int 0) S) Q = Q (.str e.c) S := fun {S Q} => ok_ixT rfl
    have i1 : ∀ {S : Sto} {Q : D → Sto → Prop}, Ok (oIx (.tup [.str e.c, .tup (e.vs.map vD)]) (.int 1) S) Q = Q (.tup (e.vs.map vD)) S := fun {S Q} => ok_ixT rfl
    simp only [e0, sok_if, ok_tOfE, ok_e2, ok_var0, ok_varS, ok_c, ok_isN, isNon_tup, D.bl.injEq, exists_eq_left', Bool.false_eq_true, if_false, sok_next]
    refine SOk.seq ?_
    rw [sok_asg]
    refine ok_lcM (α := Row) rows Row.d (fun r => (r.t == t && (r.c == e.c && true)) && !gone.contains r.h) (fun r => vD (r.h, r.m)) ?_
    simp only [ok_iAny, ok_var0, ok_varS, anyQ_lst hr]
    refine ⟨by simp [srcList], leL (by omega), fun S' k => srcList_at (.inl (k.at hr)) _, fun r hr' S' k => ⟨_, rfl, ?_⟩, fun S1 k1 hD1 => ?_⟩
    · have j0 : ∀ {S : Sto} {Q : D → Sto → Prop}, Ok (oIx r.d (.int 0) S) Q = Q (.str r.h) S := fun {S Q} => ok_ixT rfl
      have j1 : ∀ {S : Sto} {Q : D → Sto → Prop}, Ok (oIx r.d (.int 1) S) Q = Q (.str r.m) S := fun {S Q} => ok_ixT rfl
      have jc : ∀ {S : Sto} {Q : D → Sto → Prop}, Ok (oSl r.d (some 2) none S) Q = Q (.tup [.str r.t, .str r.c]) S := fun {S Q} => ok_ok
      have jq : ∀ {S : Sto} {Q : D → Sto → Prop}, Ok (oEq (.tup [.str r.t, .str r.c]) (.tup [.str t, .str e.c]) S) Q = Q (.bl (r.t == t && (r.c == e.c && true))) S := fun {S Q} => ok_eq rfl
      simp only [wipeE, List.set_cons_succ, List.set_cons_zero, ok_tAnd, ok_tOfE, ok_e2, ok_eSl, ok_part, ok_noP, ok_var0, ok_varS, ok_c, D.int.injEq, exists_eq_left', jc, ok_eTup, ok_aCons, ok_aNil, i0, jq, D.bl.injEq]
      refine ⟨leL (by simp), ?_⟩
      cases hb : (r.t == t && (r.c == e.c && true)) with
      | false => simp only [Bool.false_eq_true, if_false]; exact ⟨by rw [Bool.false_and], .refl, fun z => absurd z (by simp)⟩
      | true =>
        simp only [if_true, j0, ok_notIn (gone_in (k.at hg) r.h), D.bl.injEq, exists_eq_left', j1]
        exact ⟨by rw [Bool.true_and], .refl, fun _ => ⟨leL (by simp), rfl, .refl⟩⟩
    · refine ⟨_, rfl, ?_⟩
      refine SOk.seq ?_
      simp only [sok_asg, List.set_cons_succ, List.set_cons_zero, ok_eA, ok_aCons, ok_aNil]
      refine ok_lcM (α := Txt × Txt) e.vs vD (ok2 rows gone t e.c) vD ?_
      simp only [ok_iAny, ok_e2, ok_var0, ok_varS, ok_c, i1, anyQ_tup]
      refine ⟨by simp [srcVals], leL (by omega), fun S' _ => srcVals_at _ _, fun v hv S' k => ⟨_, rfl, ?_⟩, fun S2 k2 hD2 => ?_⟩
      · have hin : oInB (vD v) (.ref S.length) S' = some (ok2 rows gone t e.c v) := by
          have e5 : S'[S.length]? = some (.lst (((rows.filter fun r => (r.t == t && (r.c == e.c && true)) && !gone.contains r.h).map fun r => (r.h, r.m)).map vD)) := by
            rw [k.at hD1, List.map_map]; rfl
          rw [oInB_lst e5]
          exact anyEq_map (fun x => rfl) _
        simp only [wipeE, List.set_cons_succ, List.set_cons_zero, ok_tOfE, ok_e2, ok_var0, ok_varS, ok_in hin, D.bl.injEq, exists_eq_left']
        exact ⟨trivial, .refl, fun _ => ⟨trivial, .refl⟩⟩
      · simp only [ok_tupL hD2]
        refine ⟨_, rfl, ?_⟩
        refine SOk.seq ?_
        simp only [gNm, List.set_cons_succ, List.set_cons_zero, sok_if, ok_tOfE, ok_e2]
        refine ok_lenSetS ?_
        refine ok_lcM (α := Txt × Txt) (e.vs.filter (ok2 rows gone t e.c)) vD (fun _ => true) (fun v => .str v.1) ?_
        simp only [ok_iAny, ok_var0, ok_varS, anyQ_tup]
        have hfl := List.length_filter_le (ok2 rows gone t e.c) e.vs
        refine ⟨by simp [srcVals], leL (by omega), fun S' _ => srcVals_at _ _, fun v hv S' k => ⟨_, rfl, ?_⟩, fun S3 k3 hD3 => ?_⟩
        · have j0 : ∀ {S : Sto} {Q : D → Sto → Prop}, Ok (oIx (vD v) (.int 0) S) Q = Q (.str v.1) S := fun {S Q} => ok_ixT rfl
          simp only [wipeE, List.set_cons_succ, List.set_cons_zero, ok_tYes, ok_e2, ok_var0, ok_varS, ok_c, j0]
          exact ⟨trivial, .refl, fun _ => ⟨trivial, .refl⟩⟩
        · refine ⟨S2.length, (e.vs.filter (ok2 rows gone t e.c)).map (·.1), rfl, ?_, by rw [List.length_map]; omega, ?_⟩
          · rw [hD3, List.filter_eq_self.mpr (fun _ _ => rfl)]
            simp [List.map_map, Function.comp_def]
          · have kk := (k1.trans k2).trans k3
            simp only [ok_var0, ok_varS, ok_lt, D.bl.injEq, exists_eq_left', decide_eq_true_eq]
            unfold lgo
            rw [he]
            by_cases hle : ((ddK ((e.vs.filter (ok2 rows gone t e.c)).map (·.1))).length : Int) < need
            · rw [if_pos hle]
              simp only [sok_ret, ok_eTup, ok_aCons, ok_aNil, ok_c]
              rw [if_pos hle]
              exact ⟨leL (by simp), leL (by simp), rfl, kk⟩
            · rw [if_neg hle]
              simp only [sok_next, sok_ret, ok_eTup, ok_aCons, ok_aNil, ok_e2, ok_var0, ok_varS, ok_c, i0]
              rw [if_neg hle]
              exact ⟨leL (by simp), rfl, kk⟩
end K39
end OfK39C

section OfK39D
set_option Elab.async false
set_option linter.all false
set_option maxRecDepth 100000
namespace K39
open PySem PySem.Spec PyProof.Rows L2 DL

variable {S S' : Sto} {need : Int} {rows : List Row} {gone : List Txt} {ci kd : Nat} {es : List Ent}
def TT : List Txt := [[116], [109, 97, 100, 101, 10], [116, 111, 112, 105, 99, 32, 49, 50], []]
def CC : List Txt := [[120], [], [122]]
theorem wd_inj : ∀ t ∈ TT, ∀ c ∈ CC, ∀ t' ∈ TT, ∀ c' ∈ CC, wd t c = wd t' c' → t = t' ∧ c = c' := by decide +kernel
theorem TT_len : ∀ t ∈ TT, t.length < 64 := by decide
theorem CC_len : ∀ t ∈ CC, t.length < 64 := by decide
structure RowsOk (rows : List Row) : Prop where
  nd : (rows.map (·.m)).Nodup
  dom : ∀ r ∈ rows, r.t ∈ TT ∧ r.c ∈ CC
theorem nd_eq {rows : List Row} (h : (rows.map (·.m)).Nodup) {a b : Row} (ha : a ∈ rows) (hb : b ∈ rows) (e : a.m = b.m) : a = b := by
  induction rows with
  | nil => cases ha
  | cons r rs ih =>
    rw [List.map_cons, List.nodup_cons] at h
    rcases List.mem_cons.mp ha with h1 | h1
    · rcases List.mem_cons.mp hb with h2 | h2
      · rw [h1, h2]
      · exact (h.1 (List.mem_map.mpr ⟨b, h2, by rw [← e, h1]⟩)).elim
    · rcases List.mem_cons.mp hb with h2 | h2
      · exact (h.1 (List.mem_map.mpr ⟨a, h1, by rw [e, h2]⟩)).elim
      · exact ih h.2 h1 h2
theorem okv_eq (W : RowsOk rows) {t c : Txt} (ht : t ∈ TT) (hc : c ∈ CC) (v : Txt × Txt) : okv rows gone t c v = ok2 rows gone t c v := by
  rw [Bool.eq_iff_iff]
  unfold okv cnt ok2
  rw [List.any_map, List.any_eq_true]
  constructor
  · intro h
    rw [Bool.and_eq_true] at h
    obtain ⟨h1, h2⟩ := h
    cases hf : rows.find? (fun r => r.m == v.2) with
    | none => rw [hf] at h2; cases h2
    | some r =>
      rw [hf] at h2
      simp only [Bool.and_eq_true, beq_iff_eq] at h2
      have hm := List.mem_of_find?_eq_some hf
      have hr : r.m = v.2 := by simpa using List.find?_some hf
      obtain ⟨d1, d2⟩ := W.dom r hm
      obtain ⟨e1, e2⟩ := wd_inj _ d1 _ d2 _ ht _ hc h2.2
      refine ⟨r, List.mem_filter.mpr ⟨hm, ?_⟩, ?_⟩
      · rw [h2.1, h1]; simp [e1, e2]
      · simp [h2.1, hr]
  · rintro ⟨r, hr, h2⟩
    obtain ⟨hm, h3⟩ := List.mem_filter.mp hr
    simp only [Bool.and_true, Bool.and_eq_true, beq_iff_eq, Function.comp] at h2 h3
    obtain ⟨⟨e1, e2⟩, h4⟩ := h3
    have hex : ∃ r0, rows.find? (fun r => r.m == v.2) = some r0 := by
      cases hf : rows.find? (fun r => r.m == v.2) with
      | some r0 => exact ⟨r0, rfl⟩
      | none => exact absurd (List.find?_eq_none.mp hf r hm) (by simp [h2.2])
    obtain ⟨r0, hf⟩ := hex
    have e0 : r0 = r := nd_eq W.nd (List.mem_of_find?_eq_some hf) hm (by
      have : r0.m = v.2 := by simpa using List.find?_some hf
      rw [this, h2.2])
    subst e0
    rw [hf, ← h2.1, h4]
    simp [e1, e2]
def fnd (rows : List Row) (gone : List Txt) (need : Int) (es : List Ent) (t : Txt) : List D := match entOf es t with
  | none => []
  | some e => if need ≤ ((ddK ((e.vs.filter (okv rows gone t e.c)).map (·.1))).length : Int) then (e.vs.filter (okv rows gone t e.c)).map vD else []
theorem lgo_eq (W : RowsOk rows) {t : Txt} (ht : t ∈ TT) (hc : ∀ e ∈ es, e.c ∈ CC) : lgo rows gone need es t = .tup [gcl rows gone need es t, .tup (fnd rows gone need es t)] := by
  unfold lgo gcl fnd
  cases he : entOf es t with
  | none => rfl
  | some e =>
    have e1 : ok2 rows gone t e.c = okv rows gone t e.c := funext fun v => (okv_eq W ht (hc e (entOf_mem he).1) v).symm
    simp only [e1]
    by_cases h : need ≤ ((ddK ((e.vs.filter (okv rows gone t e.c)).map (·.1))).length : Int)
    · rw [if_neg (by omega), if_pos h, if_pos h]
    · rw [if_pos (by omega), if_neg h, if_neg h]
theorem gcl_shape {t : Txt} : gcl rows gone need es t = .non ∨ ∃ e, entOf es t = some e ∧ gcl rows gone need es t = .str e.c ∧ fnd rows gone need es t = (e.vs.filter (okv rows gone t e.c)).map vD := by
  unfold gcl fnd
  cases he : entOf es t with
  | none => exact .inl rfl
  | some e =>
    by_cases h : need ≤ ((ddK ((e.vs.filter (okv rows gone t e.c)).map (·.1))).length : Int)
    · simp only [if_pos h]; exact .inr ⟨e, rfl, rfl, rfl⟩
    · simp only [if_neg h]; exact .inl trivial
/-! ### the view of all -/
structure CK where
  ci : Nat
  kd : Nat
  en : Nat
  es : List Ent
structure EsOk (es : List Ent) : Prop where
  sz : EOk es
  nd : (es.map (·.t)).Nodup
  dom : ∀ e ∈ es, e.t ∈ TT ∧ e.c ∈ CC
  few : es.length ≤ 3
structure View (S : Sto) (ca kl gl : Nat) (need : Int) (rows : List Row) (gone : List Txt) (cs : List CK) : Prop where
  ros : Ros S need rows gone
  sl : S[8]? = some (.lst (rows.map Row.d))
  gl : S[gl]? = some (.lst (gone.map D.str))
  ca : S[ca]? = some (.lst (cs.map fun k => .ref k.ci))
  kl : S[kl]? = some (.lst (cs.map fun k => .ref k.en))
  cac : ∀ k ∈ cs, Cac S k.ci k.kd k.es
  ent : ∀ k ∈ cs, S[k.en]? = some (.lst (k.es.map Ent.row))
variable {ca kl gl : Nat} {cs : List CK}
theorem View.kp (V : View S ca kl gl need rows gone cs) (k : Kp [] S S') : View S' ca kl gl need rows gone cs :=
  ⟨V.ros.kp k (by simp) (by simp) (by simp) (by simp), k.at V.sl, k.at V.gl, k.at V.ca, k.at V.kl, fun x h => (V.cac x h).kp k (by simp) (by simp), fun x h => k.at (V.ent x h)⟩
structure Wok (rows : List Row) (cs : List CK) : Prop where
  ro : RowsOk rows
  few : rows.length ≤ 60
  es : ∀ k ∈ cs, EsOk k.es
  cs : cs.length ≤ 60
def lku (rows : List Row) (gone : List Txt) (need : Int) (t : Txt) : List CK → D
  | [] => .non
  | k :: r => match isNon (gcl rows gone need k.es t) with
    | true => lku rows gone need t r
    | false => .tup [gcl rows gone need k.es t, .tup (fnd rows gone need k.es t)]
theorem lku_cons {t : Txt} {k : CK} {r : List CK} : lku rows gone need t (k :: r) = match isNon (gcl rows gone need k.es t) with
    | true => lku rows gone need t r
    | false => .tup [gcl rows gone need k.es t, .tup (fnd rows gone need k.es t)] := rfl
theorem lku_snoc (t : Txt) (k : CK) : ∀ cs : List CK, lku rows gone need t (cs ++ [k]) = match isNon (lku rows gone need t cs) with
    | false => lku rows gone need t cs
    | true => match isNon (gcl rows gone need k.es t) with
      | true => .non
      | false => .tup [gcl rows gone need k.es t, .tup (fnd rows gone need k.es t)]
  | [] => rfl
  | x :: r => by
    rw [List.cons_append]
    unfold lku
    cases hx : isNon (gcl rows gone need x.es t) with
    | true => exact lku_snoc t k r
    | false => rfl
theorem lookup_ok (V : View S ca kl gl need rows gone cs) (W : Wok rows cs) {ha : Nat} (hh : S[ha]? = some (.lst (cs.map fun k => .ref k.ci))) {t : Txt} (ht : t ∈ TT) : Ok (m_look_up [.ref ha, .ref 2, .str t] S) fun r S' => r = lku rows gone need t cs ∧ Kp [] S S' := by
  refine ok_def rfl ?_
  have hE : env0 9 [.ref ha, .ref 2, .str t] = [some (.ref ha), some (.ref 2), some (.str t), none, none, none, none, none, none] := rfl
  rw [hE]
  unfold b_look_up
  have htl := TT_len t ht
  refine SOk.seq ?_
  refine sok_forL (ds := cs.map fun k => .ref k.ci) (r := ha) (fun i E S' => Kp [] S S' ∧ (∃ x y, E = [some (.ref ha), some (.ref 2), some (.str t), x, y, none, none, none, none]) ∧ lku rows gone need t cs = lku rows gone need t (cs.drop i)) ?_
  simp only [ok_var0]
  refine ⟨trivial, hh, ⟨.refl, ⟨_, _, rfl⟩, by simp⟩, fun i E S' hI => hI.1.at hh, ?_, ?_⟩
  · rintro i d E S1 hd ⟨k1, ⟨x, y, rfl⟩, hl⟩
    rw [List.getElem?_map] at hd
    obtain ⟨k, hk, rfl⟩ := Option.map_eq_some_iff.mp hd
    have hm := List.mem_of_getElem? hk
    have V1 := V.kp k1
    have C1 := V1.cac k hm
    have W1 := W.es k hm
    have hdrop : cs.drop i = k :: cs.drop (i + 1) := by
      have hlt := (List.getElem?_eq_some_iff.mp hk).1
      have e1 : cs[i] = k := (List.getElem?_eq_some_iff.mp hk).2
      rw [← e1, List.drop_eq_getElem_cons hlt]
    refine ⟨_, rfl, ?_⟩
    refine SOk.seq ?_
    simp only [List.set_cons_succ, List.set_cons_zero, sok_asg, ok_eA, ok_aCons, ok_aNil, ok_var0, ok_varS]
    refine (good_ok V1.ros C1 W1.sz htl).mono fun r S2 ⟨e1, k2⟩ => ?_
    subst e1
    refine ⟨_, rfl, ?_⟩
    simp only [gNm, List.set_cons_succ, List.set_cons_zero, sok_if, ok_tOfE, ok_e2, ok_var0, ok_varS, ok_c, ok_isNotN, D.bl.injEq, exists_eq_left']
    rw [hdrop, lku_cons] at hl
    rcases gcl_shape (rows := rows) (gone := gone) (need := need) (es := k.es) (t := t) with hn | ⟨e, he, hg, hf⟩
    · rw [hn] at hl ⊢
      simp only [isNon_non, Bool.not_true, Bool.false_eq_true, if_false, sok_next]
      exact ⟨k1.trans k2, ⟨_, _, rfl⟩, hl⟩
    · rw [hg] at hl ⊢
      simp only [isNon_str, Bool.not_false, if_true] at hl ⊢
      obtain ⟨hem, _⟩ := entOf_mem he
      obtain ⟨z1, z2, z3⟩ := W1.sz e hem
      refine SOk.seq ?_
      simp only [sok_asg, ok_eA, ok_aCons, ok_aNil, ok_var0, ok_varS]
      refine (words_ok htl z2).mono fun r S3 ⟨e3, e4⟩ => ?_
      subst e3 e4
      refine ⟨_, rfl, ?_⟩
      refine SOk.seq ?_
      simp only [gNm, List.set_cons_succ, List.set_cons_zero, sok_asg]
      have V2 := V1.kp k2
      have C2 := V2.cac k hm
      refine ok_lcM (α := Txt × Txt) e.vs vD (okv rows gone t e.c) vD ?_
      simp only [ok_iAny, ok_e2]
      refine ok_meth (r := k.ci) (c := 1) (fs := [(5, .int 3), (6, .ref k.kd)]) (mm := m_Cache_entry) ?_
      simp only [ok_var0, ok_varS, ok_aCons, ok_aNil]
      refine ⟨trivial, C2.ins, rfl, (entry_ok C2 t).mono fun r S4 ⟨e5, e6⟩ => ?_⟩
      subst e5 e6
      have e0 : entD k.es t = .tup [.str e.c, .tup (e.vs.map vD)] := by unfold entD; rw [he]; rfl
      have i1 : ∀ {S : Sto} {Q : D → Sto → Prop}, Ok (oIx (.tup [.str e.c, .tup (e.vs.map vD)]) (.int 1) S) Q = Q (.tup (e.vs.map vD)) S := fun {S Q} => ok_ixT rfl
      simp only [e0, ok_c, i1, anyQ_tup]
      refine ⟨by simp [srcVals], leL (by omega), fun S' _ => srcVals_at _ _, fun v hv S5 k5 => ⟨_, rfl, ?_⟩, fun S5 k5 hD => ?_⟩
      · rw [ok_tTru]
        refine ok_meth (r := 2) (c := 0) (fs := [(0, .int need), (1, .ref 3), (2, .ref 4), (3, .ref 5), (4, .ref 6)]) (mm := m_Roster_counts) ?_
        simp only [wipeE, List.set_cons_succ, List.set_cons_zero, ok_var0, ok_varS, ok_aCons, ok_aNil]
        have R' := V2.ros.kp k5 (by simp) (by simp) (by simp) (by simp)
        refine ⟨trivial, R'.ins, rfl, (counts_ok R' v.2 v.1 (wd t e.c)).mono fun r S6 ⟨f1, f2⟩ => ?_⟩
        subst f1 f2
        refine ⟨_, rfl, rfl, .refl, fun _ => ?_⟩
        simp only [ok_eTup, ok_aCons, ok_aNil, ok_var0, ok_varS]
        exact ⟨leL (by simp), rfl, .refl⟩
      · refine ⟨_, rfl, ?_⟩
        simp only [gNm, List.set_cons_succ, List.set_cons_zero, sok_ret, ok_eTup, ok_aCons, ok_aNil, ok_eA, ok_var0, ok_varS, ok_tupL hD]
        refine ⟨leL (by simp), ?_, (k1.trans k2).trans k5⟩
        rw [hl, hf]
  · rintro E S1 ⟨k1, ⟨x, y, rfl⟩, hl⟩
    simp only [sok_ret, ok_c]
    refine ⟨?_, k1⟩
    rw [hl, List.length_map, List.drop_length]
    rfl
theorem plain_vs : ∀ (vs : List (Txt × Txt)) (k : Nat), plainL (k + 2) (vs.map vD) = true
  | [], k => by simp [plainL]
  | v :: r, k => by
    have h := plain_vs r k
    rw [List.map_cons, plainL, h]
    simp [vD, plainD, plainL]
    decide
theorem plain_strs : ∀ (vs : List Txt) (k : Nat), plainL (k + 1) (vs.map D.str) = true
  | [], k => by simp [plainL]
  | v :: r, k => by
    have h := plain_strs r k
    rw [List.map_cons, plainL, h]
    simp [plainD]
theorem find_nd {es : List Ent} (h : (es.map (·.t)).Nodup) {e : Ent} (he : e ∈ es) : entOf es e.t = some e := by
  unfold entOf
  induction es with
  | nil => cases he
  | cons r rs ih =>
    rw [List.map_cons, List.nodup_cons] at h
    rw [List.find?_cons]
    rcases List.mem_cons.mp he with rfl | he
    · simp
    · have hne : ¬ r.t = e.t := fun z => h.1 (List.mem_map.mpr ⟨e, he, z.symm⟩)
      have hb : (r.t == e.t) = false := by simpa using hne
      rw [hb]
      exact ih h.2 he
theorem kept_ok (C : Cac S ci kd es) {en : Nat} (he : S[en]? = some (.lst (es.map Ent.row))) (W : EsOk es) : Ok (m__law_kept [.ref ci, .ref en] S) fun r S' => r = .bl true ∧ Kp [] S S' := by
  refine ok_def rfl ?_
  have hE : env0 3 [.ref ci, .ref en] = [some (.ref ci), some (.ref en), none] := rfl
  rw [hE]
  unfold b__law_kept
  refine SOk.seq ?_
  simp only [sok_if, ok_tNot, ok_tTru, ok_eA, ok_aCons, ok_aNil]
  refine ok_methX (r := ci) (c := 1) (fs := [(5, .int 3), (6, .ref kd)]) (mm := m_Cache_topics) ?_
  simp only [ok_var0, ok_varS, ok_aNil]
  refine ⟨trivial, C.ins, rfl, rfl, (topics_ok C).mono fun r S1 ⟨e1, e2⟩ => ?_⟩
  subst e1 e2
  refine ok_lcM (α := Ent) es Ent.row (fun _ => true) (fun e => .str e.t) ?_
  have hfew := W.few
  simp only [ok_iAny, ok_var0, ok_varS, anyQ_lst he]
  refine ⟨by simp [srcList], leL (by omega), fun S' k => srcList_at (.inl (k.at he)) _, fun e hm S' k => ⟨_, rfl, ?_⟩, fun S2 k2 hD => ?_⟩
  · have i0 : ∀ {S : Sto} {Q : D → Sto → Prop}, Ok (oIx (Ent.row e) (.int 0) S) Q = Q (.str e.t) S := fun {S Q} => ok_ixT rfl
    simp only [wipeE, List.set_cons_succ, List.set_cons_zero, ok_tYes, ok_e2, ok_var0, ok_varS, ok_c, i0]
    exact ⟨trivial, .refl, fun _ => ⟨trivial, .refl⟩⟩
  · rw [List.filter_eq_self.mpr (fun _ _ => rfl)] at hD
    simp only [ok_tupL hD]
    have hp : plainD 8 (.tup (es.map fun e => D.str e.t)) = true := by
      rw [plainD, Bool.and_eq_true, decide_eq_true_eq]
      have h := plain_strs (es.map (·.t)) 6
      rw [List.map_map] at h
      exact ⟨h, leL (by rw [List.length_map]; omega)⟩
    refine (same39 8 _ S2 hp).mono fun r S3 ⟨f1, f2⟩ => ?_
    subst f1 f2
    refine ⟨true, rfl, ?_⟩
    simp only [Bool.not_true, Bool.false_eq_true, if_false, sok_next]
    refine SOk.seq ?_
    refine sok_forL (ds := es.map Ent.row) (r := en) (fun i E S' => Kp [] S1 S' ∧ ∃ x, E = [some (.ref ci), some (.ref en), x]) ?_
    simp only [ok_var0, ok_varS]
    refine ⟨trivial, k2.at he, ⟨k2, _, rfl⟩, fun i E S' hI => hI.1.at he, ?_, ?_⟩
    · rintro i d E S4 hd ⟨k4, x, rfl⟩
      rw [List.getElem?_map] at hd
      obtain ⟨e, hk, rfl⟩ := Option.map_eq_some_iff.mp hd
      have hm := List.mem_of_getElem? hk
      have C4 := C.kp k4 (by simp) (by simp)
      refine ⟨_, rfl, ?_⟩
      have i0 : ∀ {S : Sto} {Q : D → Sto → Prop}, Ok (oIx (Ent.row e) (.int 0) S) Q = Q (.str e.t) S := fun {S Q} => ok_ixT rfl
      have i1 : ∀ {S : Sto} {Q : D → Sto → Prop}, Ok (oIx (Ent.row e) (.int 1) S) Q = Q (.str e.c) S := fun {S Q} => ok_ixT rfl
      have i2 : ∀ {S : Sto} {Q : D → Sto → Prop}, Ok (oIx (Ent.row e) (.int 2) S) Q = Q (.tup (e.vs.map vD)) S := fun {S Q} => ok_ixT rfl
      simp only [List.set_cons_succ, List.set_cons_zero, sok_if, ok_tNot, ok_tTru, ok_eA, ok_aCons, ok_aNil]
      refine ok_meth (r := ci) (c := 1) (fs := [(5, .int 3), (6, .ref kd)]) (mm := m_Cache_entry) ?_
      simp only [ok_var0, ok_varS, ok_aCons, ok_aNil, ok_e2, ok_c, i0]
      refine ⟨trivial, C4.ins, rfl, (entry_ok C4 e.t).mono fun r S5 ⟨e5, e6⟩ => ?_⟩
      subst e5 e6
      have e0 : entD es e.t = .tup [.str e.c, .tup (e.vs.map vD)] := by unfold entD; rw [find_nd W.nd hm]; rfl
      simp only [ok_eTup, ok_aCons, ok_aNil, ok_e2, ok_var0, ok_varS, ok_c, i1, i2, e0]
      refine ⟨leL (by simp), ?_⟩
      have hsz := (W.sz e hm).2.2
      have hp : plainD 8 (.tup [.str e.c, .tup (e.vs.map vD)]) = true := by
        have h := plain_vs e.vs 4
        have h2 : (e.vs.map vD).length ≤ LINE := leL (by rw [List.length_map]; omega)
        simp only [plainD, plainL, h, Bool.true_and, Bool.and_true, List.length_cons, List.length_nil]
        rw [Bool.and_eq_true, decide_eq_true_eq, decide_eq_true_eq]
        exact ⟨h2, leL (by simp)⟩
      refine (same39 8 _ S5 hp).mono fun r S6 ⟨g1, g2⟩ => ?_
      subst g1 g2
      refine ⟨true, rfl, ?_⟩
      simp only [Bool.not_true, Bool.false_eq_true, if_false, sok_next]
      exact ⟨k4, _, rfl⟩
    · rintro E S4 ⟨k4, x, rfl⟩
      simp only [sok_ret, ok_c]
      exact ⟨trivial, k4⟩
end K39
end OfK39D

section OfK39E
set_option Elab.async false
set_option linter.all false
set_option maxRecDepth 100000
namespace K39
open PySem PySem.Spec PyProof.Rows L2 DL

variable {S S' : Sto} {need : Int} {rows : List Row} {gone : List Txt} {ca kl gl : Nat} {cs : List CK}
def tops : O := .lst [.str [116], .str [109, 97, 100, 101, 10], .str [116, 111, 112, 105, 99, 32, 49, 50], .str []]
theorem refs_eq {S : Sto} : ∀ xs : List Nat, allEq (deq S EQK) (xs.map D.ref) (xs.map D.ref) = some true
  | [] => rfl
  | x :: r => by
    rw [List.map_cons]
    unfold allEq
    rw [refs_eq r]
    have e : deq S EQK (.ref x) (.ref x) = some true := by show deq S (59 + 1) (.ref x) (.ref x) = some true; simp [deq]
    rw [e]
    rfl
theorem plain_lku {t : Txt} (W : Wok rows cs) : plainD 8 (lku rows gone need t cs) = true := by
  have h : ∀ cs' : List CK, (∀ k ∈ cs', EsOk k.es) → plainD 8 (lku rows gone need t cs') = true := by
    intro cs'
    induction cs' with
    | nil => intro _; rfl
    | cons k r ih =>
      intro hw
      rw [lku_cons]
      rcases gcl_shape (rows := rows) (gone := gone) (need := need) (es := k.es) (t := t) with hn | ⟨e, he, hg, hf⟩
      · rw [hn]; exact ih fun x hx => hw x (List.mem_cons_of_mem _ hx)
      · rw [hg, hf]
        have hm := (entOf_mem he).1
        have hsz := ((hw k List.mem_cons_self).sz e hm).2.2
        have hfl := List.length_filter_le (okv rows gone t e.c) e.vs
        have h1 := plain_vs (e.vs.filter (okv rows gone t e.c)) 4
        have h2 : ((e.vs.filter (okv rows gone t e.c)).map vD).length ≤ LINE := leL (by rw [List.length_map]; omega)
        show plainD 8 (.tup [.str e.c, .tup ((e.vs.filter (okv rows gone t e.c)).map vD)]) = true
        simp only [plainD, plainL, h1, Bool.true_and, Bool.and_true, List.length_cons, List.length_nil]
        rw [Bool.and_eq_true, decide_eq_true_eq, decide_eq_true_eq]
        exact ⟨h2, leL (by simp)⟩
  exact h cs W.es
theorem plain_gcl {t : Txt} {es : List Ent} : plainD 8 (gcl rows gone need es t) = true := by
  rcases gcl_shape (rows := rows) (gone := gone) (need := need) (es := es) (t := t) with hn | ⟨e, he, hg, hf⟩
  · rw [hn]; rfl
  · rw [hg]; rfl
theorem looked_ok (V : View S ca kl gl need rows gone cs) (W : Wok rows cs) : Ok (m__law_looked [.ref ca, .ref kl, .ref 2, .ref 8, .ref gl, .int need] S) fun r S' => r = .bl true ∧ Kp [] S S' := by
  refine ok_def rfl ?_
  have hE : env0 11 [.ref ca, .ref kl, .ref 2, .ref 8, .ref gl, .int need] = [some (.ref ca), some (.ref kl), some (.ref 2), some (.ref 8), some (.ref gl), some (.int need), none, none, none, none, none] := rfl
  rw [hE]
  unfold b__law_looked
  refine SOk.seq ?_
  refine sok_forL (ds := TT.map D.str) (r := S.length) (fun i E S' => Kp [] S S' ∧ S'[S.length]? = some (.lst (TT.map D.str)) ∧ ∃ a b c d e, E = [some (.ref ca), some (.ref kl), some (.ref 2), some (.ref 8), some (.ref gl), some (.int need), a, b, c, d, e]) ?_
  simp only [ok_eA, ok_aNil]
  refine topics4.mono fun r S1 ⟨e1, e2⟩ => ?_
  subst e1 e2
  refine ⟨rfl, at_push, ⟨Kp.push, at_push, _, _, _, _, _, rfl⟩, fun i E S' hI => hI.2.1, ?_, ?_⟩
  · rintro i d E S1 hd ⟨k1, hT, a, b, c, dd, ee, rfl⟩
    rw [List.getElem?_map] at hd
    obtain ⟨t, htt, rfl⟩ := Option.map_eq_some_iff.mp hd
    have ht := List.mem_of_getElem? htt
    have htl := TT_len t ht
    have V1 := V.kp k1
    have hcl : cs.length ≤ 60 := W.cs
    refine ⟨_, rfl, ?_⟩
    refine SOk.seq ?_
    simp only [List.set_cons_succ, List.set_cons_zero, sok_asg, ok_c]
    refine ⟨_, rfl, ?_⟩
    simp only [List.set_cons_succ, List.set_cons_zero]
    refine SOk.seq ?_
    refine sok_forR (n := cs.length) (fun i E S' => Kp [] S1 S' ∧ ∃ c e, E = [some (.ref ca), some (.ref kl), some (.ref 2), some (.ref 8), some (.ref gl), some (.int need), some (.str t), some (lku rows gone need t (cs.take i)), c, dd, e]) ?_
    simp only [ok_aCons, ok_eA, ok_var0, ok_varS, ok_aNil, ok_lenL (.inl V1.ca), List.length_map]
    refine ⟨trivial, lt_BIG (leL (by omega)), ⟨.refl, _, _, rfl⟩, ?_, ?_⟩
    · rintro j E S2 hj ⟨k2, c, e, rfl⟩
      have hk : cs[j]? = some cs[j] := List.getElem?_eq_getElem hj
      generalize cs[j] = k at hk
      have hm := List.mem_of_getElem? hk
      have V2 := V1.kp k2
      have W2 := W.es k hm
      have hen : atI (cs.map fun k => D.ref k.en) (j : Int) = some (.ref k.en) := atI_nat (by rw [List.getElem?_map, hk]; rfl)
      have hci : atI (cs.map fun k => D.ref k.ci) (j : Int) = some (.ref k.ci) := atI_nat (by rw [List.getElem?_map, hk]; rfl)
      refine SOk.seq ?_
      simp only [List.set_cons_succ, List.set_cons_zero, sok_asg, ok_eA, ok_aCons, ok_aNil, ok_e2, ok_var0, ok_varS, ok_ixL (.inl V2.kl) hen]
      refine (lentry_ok (V2.ent k hm) t).mono fun r S3 ⟨f1, f2⟩ => ?_
      subst f1 f2
      refine (lgood_ok (need := need) V2.sl V2.gl W2.sz W.few t).mono fun r S4 ⟨f3, k4⟩ => ?_
      subst f3
      rw [lgo_eq W.ro ht (fun e he => (W2.dom e he).2)]
      refine ⟨_, rfl, ?_⟩
      have V4 := V2.kp k4
      have q0 : ∀ {S : Sto} {Q : D → Sto → Prop}, Ok (oIx (.tup [gcl rows gone need k.es t, .tup (fnd rows gone need k.es t)]) (.int 0) S) Q = Q (gcl rows gone need k.es t) S := fun {S Q} => ok_ixT rfl
      have hsn : lku rows gone need t (cs.take (j + 1)) = match isNon (lku rows gone need t (cs.take j)) with
          | false => lku rows gone need t (cs.take j)
          | true => match isNon (gcl rows gone need k.es t) with
            | true => .non
            | false => .tup [gcl rows gone need k.es t, .tup (fnd rows gone need k.es t)] := by
        rw [List.take_succ, hk]
        exact lku_snoc t k _
      -- the rest of a turn
      have rest : ∀ e10, SOk (sIf (tOrF (tNotF (tTru (eA (m__law_same 8) (aCons (eA m_good_claim (aCons (e2 oIx (eVar 0) (eVar 8)) (aCons (eVar 2) (aCons (eVar 6) aNil)))) (aCons (e2 oIx (eVar 10) (eC (.int 0))) aNil))))) (tNotF (tTru (eA m__law_kept (aCons (e2 oIx (eVar 0) (eVar 8)) (aCons (e2 oIx (eVar 1) (eVar 8)) aNil)))))) (sRet (eC (.bl false))) sNext [some (.ref ca), some (.ref kl), some (.ref 2), some (.ref 8), some (.ref gl), some (.int need), some (.str t), some e10, some (.int j), dd, some (.tup [gcl rows gone need k.es t, .tup (fnd rows gone need k.es t)])] S4)
          ⟨fun E S' => Kp [] S4 S' ∧ E = [some (.ref ca), some (.ref kl), some (.ref 2), some (.ref 8), some (.ref gl), some (.int need), some (.str t), some e10, some (.int j), dd, some (.tup [gcl rows gone need k.es t, .tup (fnd rows gone need k.es t)])], fun _ _ => False, fun _ _ => False, fun _ _ => False⟩ := fun e10 => by
        simp only [sok_if, ok_tOr, ok_tNot, ok_tTru, ok_eA, ok_aCons, ok_aNil, ok_e2, ok_var0, ok_varS, ok_c, ok_ixL (.inl V4.ca) hci]
        refine (good_ok V4.ros (V4.cac k hm) W2.sz htl).mono fun r S5 ⟨g1, k5⟩ => ?_
        subst g1
        simp only [q0]
        refine (same39 8 _ S5 plain_gcl).mono fun r S6 ⟨g2, g3⟩ => ?_
        subst g2 g3
        have V6 := V4.kp k5
        refine ⟨true, rfl, ?_⟩
        simp only [Bool.not_true, Bool.false_eq_true, if_false, ok_ixL (.inl V6.ca) hci, ok_ixL (.inl V6.kl) hen]
        refine (kept_ok (V6.cac k hm) (V6.ent k hm) W2).mono fun r S7 ⟨g4, k7⟩ => ?_
        subst g4
        refine ⟨true, rfl, ?_⟩
        simp only [Bool.not_true, Bool.false_eq_true, if_false, sok_next]
        exact ⟨k5.trans k7, trivial⟩
      have fin : ∀ e10, e10 = lku rows gone need t (cs.take (j + 1)) → SOk (sIf (tOrF (tNotF (tTru (eA (m__law_same 8) (aCons (eA m_good_claim (aCons (e2 oIx (eVar 0) (eVar 8)) (aCons (eVar 2) (aCons (eVar 6) aNil)))) (aCons (e2 oIx (eVar 10) (eC (.int 0))) aNil))))) (tNotF (tTru (eA m__law_kept (aCons (e2 oIx (eVar 0) (eVar 8)) (aCons (e2 oIx (eVar 1) (eVar 8)) aNil)))))) (sRet (eC (.bl false))) sNext [some (.ref ca), some (.ref kl), some (.ref 2), some (.ref 8), some (.ref gl), some (.int need), some (.str t), some e10, some (.int j), dd, some (.tup [gcl rows gone need k.es t, .tup (fnd rows gone need k.es t)])] S4)
          ⟨fun E S' => Kp [] S1 S' ∧ ∃ c e, E = [some (.ref ca), some (.ref kl), some (.ref 2), some (.ref 8), some (.ref gl), some (.int need), some (.str t), some (lku rows gone need t (cs.take (j + 1))), c, dd, e], fun r S' => r = .bl true ∧ Kp [] S S', fun E S' => False, fun E S' => Kp [] S1 S' ∧ ∃ c e, E = [some (.ref ca), some (.ref kl), some (.ref 2), some (.ref 8), some (.ref gl), some (.int need), some (.str t), some (lku rows gone need t (cs.take (j + 1))), c, dd, e]⟩ := fun e10 he10 => by
        subst he10
        refine (rest _).mono (fun E S5 ⟨k5, e5⟩ => ⟨(k2.trans k4).trans k5, _, _, e5⟩) (fun _ _ z => z.elim) (fun _ _ z => z.elim) (fun _ _ z => z.elim)
      refine SOk.seq ?_
      simp only [gNm, List.set_cons_succ, List.set_cons_zero]
      rw [sok_if]
      simp only [ok_tAnd, ok_tOfE, ok_e2, ok_var0, ok_varS, ok_c, q0, ok_isNotN, D.bl.injEq, exists_eq_left']
      cases hg : isNon (gcl rows gone need k.es t) with
      | true =>
        simp only [Bool.not_true, Bool.false_eq_true, if_false, sok_next]
        refine (fin _ ?_).mono (fun _ _ h => h) (fun _ _ h => h) (fun _ _ z => z.elim) (fun _ _ h => h)
        rw [hsn, hg]
        cases hl : isNon (lku rows gone need t (cs.take j)) with
        | false => rfl
        | true =>
          simp only
          cases hq : lku rows gone need t (cs.take j) with
          | non => rfl
          | _ => rw [hq] at hl; cases hl
      | false =>
        simp only [Bool.not_false, if_true, ok_isN, D.bl.injEq, exists_eq_left']
        cases hl : isNon (lku rows gone need t (cs.take j)) with
        | false =>
          simp only [Bool.false_eq_true, if_false, sok_next]
          refine (fin _ ?_).mono (fun _ _ h => h) (fun _ _ h => h) (fun _ _ z => z.elim) (fun _ _ h => h)
          rw [hsn, hl]
        | true =>
          simp only [if_true, sok_asg, ok_var0, ok_varS]
          refine ⟨_, rfl, ?_⟩
          refine (fin _ ?_).mono (fun _ _ h => h) (fun _ _ h => h) (fun _ _ z => z.elim) (fun _ _ h => h)
          rw [hsn, hl, hg]
    · rintro E S2 ⟨k2, c, e, rfl⟩
      rw [List.take_length]
      have V2 := V1.kp k2
      refine SOk.seq ?_
      simp only [sok_asg, ok_eA, ok_aCons, ok_aNil, ok_var0, ok_varS, ok_listL V2.ca]
      refine ⟨_, rfl, ?_⟩
      have V3 := V2.kp (S' := S2 ++ [.lst (cs.map fun k => .ref k.ci)]) Kp.push
      refine SOk.seq ?_
      simp only [gNm, List.set_cons_succ, List.set_cons_zero, sok_if, ok_tOr, ok_tNot, ok_tTru, ok_eA, ok_aCons, ok_aNil, ok_var0, ok_varS]
      refine (lookup_ok V3 W at_push ht).mono fun r S4 ⟨f1, k4⟩ => ?_
      subst f1
      refine (same39 8 _ S4 (plain_lku W)).mono fun r S5 ⟨f2, f3⟩ => ?_
      subst f2 f3
      have V4 := V3.kp k4
      have h9 := k4.at (at_push (S := S2) (o := .lst (cs.map fun k => .ref k.ci)))
      have hq : deqT S5 EQK (.ref S2.length) (.ref ca) = some true := by
        have r1 := refs_eq (S := S5) (cs.map (·.ci))
        rw [List.map_map] at r1
        unfold deqT
        simp only [h9, V4.ca, Option.bind_some, lstO, if_true]
        exact r1
      refine ⟨true, rfl, ?_⟩
      simp only [Bool.not_true, Bool.false_eq_true, if_false, ok_tOfE, ok_e2, ok_var0, ok_varS, ok_ne hq, D.bl.injEq, exists_eq_left', sok_next]
      have k5 := (k2.trans (Kp.push (o := .lst (cs.map fun k => .ref k.ci)))).trans k4
      refine sok_forR (n := cs.length) (fun i E S' => Kp [] S1 S' ∧ ∃ c, E = [some (.ref ca), some (.ref kl), some (.ref 2), some (.ref 8), some (.ref gl), some (.int need), some (.str t), some (lku rows gone need t cs), c, some (.ref S2.length), e]) ?_
      simp only [ok_aCons, ok_eA, ok_var0, ok_varS, ok_aNil, ok_lenL (.inl V4.ca), List.length_map]
      refine ⟨trivial, lt_BIG (leL (by omega)), ⟨k5, _, rfl⟩, ?_, ?_⟩
      · rintro j E S6 hj ⟨k6, c, rfl⟩
        have hk : cs[j]? = some cs[j] := List.getElem?_eq_getElem hj
        generalize cs[j] = k at hk
        have hm := List.mem_of_getElem? hk
        have V6 := V1.kp k6
        have hen : atI (cs.map fun k => D.ref k.en) (j : Int) = some (.ref k.en) := atI_nat (by rw [List.getElem?_map, hk]; rfl)
        have hci : atI (cs.map fun k => D.ref k.ci) (j : Int) = some (.ref k.ci) := atI_nat (by rw [List.getElem?_map, hk]; rfl)
        simp only [List.set_cons_succ, List.set_cons_zero, sok_if, ok_tNot, ok_tTru, ok_eA, ok_aCons, ok_aNil, ok_e2, ok_var0, ok_varS, ok_ixL (.inl V6.ca) hci, ok_ixL (.inl V6.kl) hen]
        refine (kept_ok (V6.cac k hm) (V6.ent k hm) (W.es k hm)).mono fun r S7 ⟨g4, k7⟩ => ?_
        subst g4
        refine ⟨true, rfl, ?_⟩
        simp only [Bool.not_true, Bool.false_eq_true, if_false, sok_next]
        exact ⟨k6.trans k7, _, rfl⟩
      · rintro E S6 ⟨k6, c, rfl⟩
        exact ⟨k1.trans k6, k6.at hT, _, _, _, _, _, rfl⟩
  · rintro E S1 ⟨k1, hT, a, b, c, d, e, rfl⟩
    simp only [sok_ret, ok_c]
    exact ⟨trivial, k1⟩
end K39
end OfK39E

section OfK39F
set_option Elab.async false
set_option linter.all false
set_option maxRecDepth 100000
namespace K39
open PySem PySem.Spec PyProof.Rows L2 DL

theorem _root_.DL.Kp.setN {M : List Nat} {S S1 : Sto} {n : Nat} {o : O} (a : Kp M S S1) (hn : S.length ≤ n) : Kp M S (S1.set n o) := ⟨by simpa using a.1, fun i u hi h => by
  have hl := (List.getElem?_eq_some_iff.mp h).1
  rw [List.getElem?_set_ne (by omega)]; exact a.2 i u hi h⟩
theorem _root_.DL.Kp.pushM {M : List Nat} {S S1 : Sto} {o : O} (a : Kp M S S1) : Kp M S (S1 ++ [o]) := a.trans Kp.push.nil
variable {S S' : Sto} {need : Int} {rows : List Row} {gone : List Txt} {ci kd : Nat} {es : List Ent} {ns : List Int}
/-! ### draws -/
structure Dr (S : Sto) (ns : List Int) : Prop where
  st : ∃ a b c : Int, S[1]? = some (.lst [.int a, .int b, .int c]) ∧ 0 ≤ a
  sc : S[0]? = some (.frz (ns.map D.int))
theorem Dr.kp (h : Dr S ns) {M : List Nat} (k : Kp M S S') (h0 : 0 ∉ M) (h1 : 1 ∉ M) : Dr S' ns := by
  obtain ⟨a, b, c, e, ha⟩ := h.st
  exact ⟨⟨a, b, c, k.at e h1, ha⟩, k.at h.sc h0⟩
theorem draw (h : Dr S ns) {m : Nat} (hm : 0 < m) (hm2 : m < 1000) : Ok (m__law_next [.ref 1, .ref 0, .int m] S) fun r S' => ∃ i : Nat, r = .int i ∧ i < m ∧ Dr S' ns ∧ Kp [1] S S' := by
  obtain ⟨a, b, c, e, ha⟩ := h.st
  refine (next39 e h.sc ha (m := m) (by omega) (by omega)).mono fun r S1 ⟨i, a', b', c', e1, e2, e3, e4, e5⟩ => ?_
  subst e1 e5
  refine ⟨i.toNat, by rw [Int.toNat_of_nonneg e2], by omega, ⟨⟨a', b', c', at_set e, e4⟩, ?_⟩, Kp.set⟩
  rw [List.getElem?_set_ne (by decide)]
  exact h.sc
/-! ### what caches do -/
theorem dDel_ent (x : Txt) : ∀ es : List Ent, dDel (es.map Ent.kv) (.str x) = (es.filter fun e => !(e.t == x)).map Ent.kv
  | [] => rfl
  | e :: r => by
    have ih := dDel_ent x r
    unfold dDel at ih ⊢
    rw [List.map_cons, List.filter_cons, List.filter_cons]
    have hk : keq (Ent.kv e).1 (.str x) = (e.t == x) := rfl
    rw [hk]
    cases (e.t == x) <;> simp [ih]
theorem any_ent (x : Txt) : ∀ es : List Ent, ((es.map Ent.kv).any fun p => keq p.1 (.str x)) = es.any fun e => e.t == x
  | [] => rfl
  | e :: r => by rw [List.map_cons, List.any_cons, List.any_cons, any_ent x r]; rfl
theorem dPut_new {x : Txt} {v : D} (h : (es.any fun e => e.t == x) = false) : dPut (es.map Ent.kv) (.str x) v = es.map Ent.kv ++ [(.str x, v)] := by
  unfold dPut
  rw [any_ent, h]
  rfl
def chg (es : List Ent) (t c : Txt) : List Ent := es.map fun e => if (e.t == t) = true then ⟨e.t, c, e.vs⟩ else e
theorem dPut_old {x c : Txt} {vs : List (Txt × Txt)} (h : (es.any fun e => e.t == x) = true) (hv : ∀ e ∈ es, e.t = x → e.vs = vs) : dPut (es.map Ent.kv) (.str x) (.tup [.str c, .tup (vs.map vD)]) = (chg es x c).map Ent.kv := by
  unfold dPut chg
  rw [any_ent, h, if_pos rfl, List.map_map, List.map_map]
  refine List.map_congr_left fun e he => ?_
  have hk : keq (Ent.kv e).1 (.str x) = (e.t == x) := rfl
  simp only [Function.comp, hk]
  by_cases hx : (e.t == x) = true
  · rw [if_pos hx, if_pos hx]
    have := hv e he (by simpa using hx)
    simp [Ent.kv, Ent.val, this]
  · rw [if_neg hx, if_neg hx]
theorem entOf_any (t : Txt) : (entOf es t).isSome = es.any fun e => e.t == t := by
  unfold entOf
  rw [Bool.eq_iff_iff, List.find?_isSome, List.any_eq_true]
def aft (es : List Ent) (t c : Txt) (vs : List (Txt × Txt)) : List Ent := (es.filter fun e => !(e.t == t)) ++ [⟨t, c, vs⟩]
theorem aft_nd (W : EsOk es) (t c : Txt) (vs) : ((aft es t c vs).map (·.t)).Nodup := by
  unfold aft
  rw [List.map_append, List.nodup_append]
  refine ⟨(W.nd.sublist (List.Sublist.map _ List.filter_sublist)), by simp, fun a ha b hb => ?_⟩
  rw [List.mem_map] at ha
  obtain ⟨e, he, rfl⟩ := ha
  have h2 := (List.mem_filter.mp he).2
  simp at hb
  subst hb
  simpa using h2
theorem aft_len (W : EsOk es) (t c : Txt) (vs) : (aft es t c vs).length ≤ 4 := by
  unfold aft
  have := List.length_filter_le (fun e : Ent => !(e.t == t)) es
  have := W.few
  simp
  omega
theorem put_ok (C : Cac S ci kd es) (W : EsOk es) (t c : Txt) (vs : List (Txt × Txt)) : Ok (m_Cache_put [.ref ci, .str t, .str c, .tup (vs.map vD)] S) fun r S' => Kp [kd] S S' ∧ Cac S' ci kd ((aft es t c vs).drop ((aft es t c vs).length - 3)) ∧
    r = if (aft es t c vs).length < 4 then .non else (((aft es t c vs)[0]?).map fun e => D.str e.t).getD .non := by
  refine ok_def rfl ?_
  have hne : ci ≠ kd := fun e => by have := C.ins; rw [e, C.kd] at this; cases this
  have hE : env0 5 [.ref ci, .str t, .str c, .tup (vs.map vD)] = [some (.ref ci), some (.str t), some (.str c), some (.tup (vs.map vD)), none] := rfl
  rw [hE]
  unfold b_Cache_put
  have hfew := W.few
  -- behind the first del
  have step : ∀ S1, Kp [kd] S S1 → S1[kd]? = some (.dic ((es.filter fun e => !(e.t == t)).map Ent.kv)) → SOk (sSeq (sSub (eFld 6 [1] (eVar 0)) (eVar 1) (eTup (aCons (eVar 2) (aCons (eVar 3) aNil)))) (sSeq (sIf (tOfE (e2 oLe (eA oLen (aCons (eFld 6 [1] (eVar 0)) aNil)) (eFld 5 [1] (eVar 0)))) (sRet (eC .non)) sNext) (sSeq (sAsg (e2 oIx (eMethX [(1, m_Cache_topics)] [4] (eVar 0) aNil) (eC (.int 0))) (gNm 4)) (sSeq (sDel (eFld 6 [1] (eVar 0)) (eVar 4)) (sRet (eVar 4))))) [some (.ref ci), some (.str t), some (.str c), some (.tup (vs.map vD)), none] S1)
      ⟨fun _ S' => Kp [kd] S S' ∧ Cac S' ci kd ((aft es t c vs).drop ((aft es t c vs).length - 3)) ∧ D.non = if (aft es t c vs).length < 4 then .non else (((aft es t c vs)[0]?).map fun e => D.str e.t).getD .non, fun r S' => Kp [kd] S S' ∧ Cac S' ci kd ((aft es t c vs).drop ((aft es t c vs).length - 3)) ∧ r = if (aft es t c vs).length < 4 then .non else (((aft es t c vs)[0]?).map fun e => D.str e.t).getD .non, fun _ _ => False, fun _ _ => False⟩ := fun S1 k1 hk1 => by
    have C1 : Cac S1 ci kd (es.filter fun e => !(e.t == t)) := ⟨k1.at C.ins (by simpa using hne), hk1⟩
    have hl1 := List.length_filter_le (fun e : Ent => !(e.t == t)) es
    have hnew : ((es.filter fun e => !(e.t == t)).any fun e => e.t == t) = false := by
      rw [List.any_eq_false]
      intro e he
      have := (List.mem_filter.mp he).2
      simpa using this
    refine SOk.seq ?_
    simp only [sok_sub, ok_eTup, ok_aCons, ok_aNil, ok_fld, ok_var0, ok_varS, C1.f6]
    refine ⟨leL (by simp), _, stSub_dic C1.kd rfl (ltL (by rw [List.length_map]; omega)), ?_⟩
    rw [dPut_new hnew]
    have ea : (es.filter fun e => !(e.t == t)).map Ent.kv ++ [(D.str t, D.tup [.str c, .tup (vs.map vD)])] = (aft es t c vs).map Ent.kv := by
      unfold aft; rw [List.map_append]; rfl
    rw [ea]
    have C2 : Cac (S1.set kd (.dic ((aft es t c vs).map Ent.kv))) ci kd (aft es t c vs) := ⟨by rw [List.getElem?_set_ne (Ne.symm hne)]; exact C1.ins, at_set C1.kd⟩
    have k2 : Kp [kd] S (S1.set kd (.dic ((aft es t c vs).map Ent.kv))) := k1.trans Kp.set
    generalize S1.set kd (.dic ((aft es t c vs).map Ent.kv)) = S2 at C2 k2
    have hal := aft_len W t c vs
    refine SOk.seq ?_
    rw [sok_if]
    simp only [ok_tOfE, ok_e2, ok_eA, ok_aCons, ok_aNil, ok_fld, ok_var0, ok_varS, C2.f6, ok_lenD C2.kd, C2.f5, ok_le, D.bl.injEq, exists_eq_left', decide_eq_true_eq, List.length_map]
    by_cases h3 : ((aft es t c vs).length : Int) ≤ 3
    · rw [if_pos h3]
      simp only [sok_ret, ok_c]
      have e0 : (aft es t c vs).length - 3 = 0 := by omega
      rw [e0, List.drop_zero, if_pos (by omega)]
      exact ⟨k2, C2, rfl⟩
    · rw [if_neg h3, sok_next]
      have h4 : (aft es t c vs).length = 4 := by omega
      obtain ⟨e0, r0, ha⟩ : ∃ e0 r0, aft es t c vs = e0 :: r0 := by
        cases h : aft es t c vs with
        | nil => rw [h] at h4; cases h4
        | cons a b => exact ⟨a, b, rfl⟩
      refine SOk.seq ?_
      rw [sok_asg, ok_e2]
      refine ok_methX (r := ci) (c := 1) (fs := [(5, .int 3), (6, .ref kd)]) (mm := m_Cache_topics) ?_
      simp only [ok_var0, ok_varS, ok_aNil]
      refine ⟨trivial, C2.ins, rfl, rfl, (topics_ok C2).mono fun r S3 ⟨f1, f2⟩ => ?_⟩
      subst f1 f2
      have hat : atI ((aft es t c vs).map fun e => D.str e.t) 0 = some (.str e0.t) := by rw [ha]; exact atI_nat (j := 0) rfl
      simp only [ok_c, ok_ixT hat]
      refine ⟨_, rfl, ?_⟩
      refine SOk.seq ?_
      simp only [gNm, List.set_cons_succ, List.set_cons_zero, sok_del, ok_fld, ok_var0, ok_varS, C2.f6]
      have hg : dGet ((aft es t c vs).map Ent.kv) (.str e0.t) = some e0.val := by
        rw [get_ent, find_nd (aft_nd W t c vs) (by rw [ha]; exact List.mem_cons_self)]
        rfl
      refine ⟨kd, _, _, _, rfl, C2.kd, rfl, hg, ?_⟩
      simp only [sok_ret, ok_var0, ok_varS]
      have hnd := aft_nd W t c vs
      rw [h4, if_neg (by omega), dDel_ent]
      have hfil : ((aft es t c vs).filter fun e => !(e.t == e0.t)) = (aft es t c vs).drop 1 := by
        rw [ha, List.filter_cons]
        simp only [beq_self_eq_true, Bool.not_true, Bool.false_eq_true, if_false, List.drop_succ_cons, List.drop_zero]
        rw [List.filter_eq_self]
        intro e he
        rw [ha, List.map_cons, List.nodup_cons] at hnd
        have : ¬ e.t = e0.t := fun z => hnd.1 (by rw [← z]; exact List.mem_map.mpr ⟨e, he, rfl⟩)
        simpa using this
      rw [hfil]
      refine ⟨k2.trans Kp.set, ⟨by rw [List.getElem?_set_ne (Ne.symm hne)]; exact C2.ins, at_set C2.kd⟩, by rw [ha]; rfl⟩
  refine SOk.seq ?_
  rw [sok_if]
  simp only [ok_tOfE, ok_e2, ok_fld, ok_var0, ok_varS, C.f6, ok_in (oInB_dic (k := .str t) C.kd rfl), D.bl.injEq, exists_eq_left', get_ent, Option.isSome_map, entOf_any]
  cases hin : es.any (fun e => e.t == t) with
  | true =>
    simp only [if_true, sok_del, ok_fld, ok_var0, ok_varS, C.f6]
    have h1 := entOf_any (es := es) t
    rw [hin] at h1
    obtain ⟨e, he⟩ := Option.isSome_iff_exists.mp h1
    refine ⟨kd, _, _, e.val, rfl, C.kd, rfl, by rw [get_ent, he]; rfl, ?_⟩
    rw [dDel_ent]
    exact step _ Kp.set (at_set C.kd)
  | false =>
    simp only [Bool.false_eq_true, if_false, sok_next]
    refine step S .refl ?_
    rw [C.kd]
    have : (es.filter fun e => !(e.t == t)) = es := by
      rw [List.filter_eq_self]
      intro e he
      have := List.any_eq_false.mp hin e he
      simpa using this
    rw [this]
theorem lose_ok (C : Cac S ci kd es) (t : Txt) : Ok (m_Cache_lose [.ref ci, .str t] S) fun r S' => Kp [kd] S S' ∧ Cac S' ci kd (es.filter fun e => !(e.t == t)) ∧ r = .bl (es.any fun e => e.t == t) := by
  refine ok_def rfl ?_
  have hne : ci ≠ kd := fun e => by have := C.ins; rw [e, C.kd] at this; cases this
  have hE : env0 2 [.ref ci, .str t] = [some (.ref ci), some (.str t)] := rfl
  rw [hE]
  unfold b_Cache_lose
  refine SOk.seq ?_
  rw [sok_if]
  simp only [ok_tOfE, ok_e2, ok_fld, ok_var0, ok_varS, C.f6, ok_notIn (oInB_dic (k := .str t) C.kd rfl), D.bl.injEq, exists_eq_left', get_ent, Option.isSome_map, entOf_any]
  cases hin : es.any (fun e => e.t == t) with
  | true =>
    simp only [Bool.not_true, Bool.false_eq_true, if_false, sok_next]
    refine SOk.seq ?_
    simp only [sok_del, ok_fld, ok_var0, ok_varS, C.f6]
    have h1 := entOf_any (es := es) t
    rw [hin] at h1
    obtain ⟨e, he⟩ := Option.isSome_iff_exists.mp h1
    refine ⟨kd, _, _, e.val, rfl, C.kd, rfl, by rw [get_ent, he]; rfl, ?_⟩
    simp only [sok_ret, ok_c]
    rw [dDel_ent]
    exact ⟨Kp.set, ⟨by rw [List.getElem?_set_ne (Ne.symm hne)]; exact C.ins, at_set C.kd⟩, trivial⟩
  | false =>
    simp only [Bool.not_false, if_true, sok_ret, ok_c]
    have : (es.filter fun e => !(e.t == t)) = es := by
      rw [List.filter_eq_self]
      intro e he
      have := List.any_eq_false.mp hin e he
      simpa using this
    rw [this]
    exact ⟨.refl, C, trivial⟩
theorem spoil_ok (C : Cac S ci kd es) (W : EsOk es) (t c : Txt) : Ok (m_Cache_spoil [.ref ci, .str t, .str c] S) fun r S' => Kp [kd] S S' ∧ Cac S' ci kd (chg es t c) ∧ r = .bl (es.any fun e => e.t == t) := by
  refine ok_def rfl ?_
  have hne : ci ≠ kd := fun e => by have := C.ins; rw [e, C.kd] at this; cases this
  have hE : env0 3 [.ref ci, .str t, .str c] = [some (.ref ci), some (.str t), some (.str c)] := rfl
  rw [hE]
  unfold b_Cache_spoil
  have hfew := W.few
  refine SOk.seq ?_
  rw [sok_if]
  simp only [ok_tOfE, ok_e2, ok_fld, ok_var0, ok_varS, C.f6, ok_notIn (oInB_dic (k := .str t) C.kd rfl), D.bl.injEq, exists_eq_left', get_ent, Option.isSome_map, entOf_any]
  cases hin : es.any (fun e => e.t == t) with
  | true =>
    simp only [Bool.not_true, Bool.false_eq_true, if_false, sok_next]
    refine SOk.seq ?_
    have h1 := entOf_any (es := es) t
    rw [hin] at h1
    obtain ⟨e, he⟩ := Option.isSome_iff_exists.mp h1
    have hd : dGet (es.map Ent.kv) (.str t) = some e.val := by rw [get_ent, he]; rfl
    have i1 : ∀ {S : Sto} {Q : D → Sto → Prop}, Ok (oIx e.val (.int 1) S) Q = Q (.tup (e.vs.map vD)) S := fun {S Q} => ok_ixT rfl
    simp only [sok_sub, ok_eTup, ok_aCons, ok_aNil, ok_e2, ok_fld, ok_var0, ok_varS, ok_c, C.f6, ok_ixD C.kd (k := .str t) rfl hd, i1]
    refine ⟨leL (by simp), _, stSub_dic C.kd rfl (ltL (by rw [List.length_map]; omega)), ?_⟩
    simp only [sok_ret, ok_c]
    rw [dPut_old hin (fun e' he' ht' => by
      have hm := entOf_mem he
      have := find_nd W.nd he'
      rw [ht', he] at this
      cases this
      rfl)]
    exact ⟨Kp.set, ⟨by rw [List.getElem?_set_ne (Ne.symm hne)]; exact C.ins, at_set C.kd⟩, trivial⟩
  | false =>
    simp only [Bool.not_false, if_true, sok_ret, ok_c]
    have : chg es t c = es := by
      unfold chg
      conv => rhs; rw [← List.map_id es]
      refine List.map_congr_left fun e he => ?_
      have := List.any_eq_false.mp hin e he
      rw [if_neg this]
      rfl
    rw [this]
    exact ⟨.refl, C, trivial⟩
end K39
end OfK39F

section OfK39G
set_option Elab.async false
set_option linter.all false
set_option maxRecDepth 100000
namespace K39
open PySem PySem.Spec PyProof.Rows L2 DL

variable {S S' : Sto} {need : Int} {rows : List Row} {gone : List Txt} {ci kd : Nat} {es : List Ent} {ns : List Int}
theorem EsOk.sub {es' : List Ent} (W : EsOk es) (h : es'.Sublist es) : EsOk es' := ⟨fun e he => W.sz e (h.subset he), W.nd.sublist (h.map _), fun e he => W.dom e (h.subset he), Nat.le_trans h.length_le W.few⟩
theorem entD_isNon (t : Txt) : isNon (entD es t) = !(es.any fun e => e.t == t) := by
  rw [← entOf_any]
  unfold entD
  cases entOf es t <;> rfl
theorem chg_ok (W : EsOk es) {t c : Txt} (hc : c ∈ CC) : EsOk (chg es t c) := by
  have hm : (chg es t c).map (·.t) = es.map (·.t) := by
    unfold chg
    rw [List.map_map]
    refine List.map_congr_left fun e _ => ?_
    simp only [Function.comp]
    split <;> rfl
  refine ⟨fun e he => ?_, by rw [hm]; exact W.nd, fun e he => ?_, by unfold chg; rw [List.length_map]; exact W.few⟩
  · obtain ⟨a, ha, rfl⟩ := List.mem_map.mp he
    obtain ⟨h1, h2, h3⟩ := W.sz a ha
    by_cases hx : (a.t == t) = true
    · rw [if_pos hx]; exact ⟨h1, CC_len c hc, h3⟩
    · rw [if_neg hx]; exact ⟨h1, h2, h3⟩
  · obtain ⟨a, ha, rfl⟩ := List.mem_map.mp he
    obtain ⟨h1, h2⟩ := W.dom a ha
    by_cases hx : (a.t == t) = true
    · rw [if_pos hx]; exact ⟨h1, hc⟩
    · rw [if_neg hx]; exact ⟨h1, h2⟩
theorem aft_ok (W : EsOk es) {t c : Txt} {vs : List (Txt × Txt)} (ht : t ∈ TT) (hc : c ∈ CC) (hv : vs.length ≤ 60) : EsOk ((aft es t c vs).drop ((aft es t c vs).length - 3)) := by
  have hmem : ∀ e ∈ aft es t c vs, (e ∈ es ∨ e = ⟨t, c, vs⟩) := fun e he => by
    unfold aft at he
    rcases List.mem_append.mp he with h | h
    · exact .inl (List.mem_filter.mp h).1
    · exact .inr (List.mem_singleton.mp h)
  have hsub := List.drop_sublist ((aft es t c vs).length - 3) (aft es t c vs)
  refine ⟨fun e he => ?_, (aft_nd W t c vs).sublist (hsub.map _), fun e he => ?_, by rw [List.length_drop]; omega⟩
  · rcases hmem e (hsub.subset he) with h | rfl
    · exact W.sz e h
    · exact ⟨TT_len t ht, CC_len c hc, hv⟩
  · rcases hmem e (hsub.subset he) with h | rfl
    · exact W.dom e h
    · exact ⟨ht, hc⟩
theorem TT_at {i : Nat} (h : i < 4) : ∃ t, t ∈ TT ∧ atI [D.str [116], .str [109, 97, 100, 101, 10], .str [116, 111, 112, 105, 99, 32, 49, 50], .str []] (i : Int) = some (.str t) := by
  have e : TT[i]? = some (TT[i]'h) := List.getElem?_eq_getElem h
  exact ⟨TT[i]'h, List.getElem_mem h, atI_nat (xs := TT.map D.str) (by rw [List.getElem?_map, e]; rfl)⟩
theorem cut_drop {α : Type} (xs : List α) (k : Nat) : cutL xs (some (k : Int)) none = xs.drop k := by
  unfold cutL
  rw [HT.sIx_nat, HT.sIx_none]
  by_cases h : k ≤ xs.length
  · rw [Nat.min_eq_left h, List.take_of_length_le (by rw [List.length_drop]; omega)]
  · rw [Nat.min_eq_right (by omega), List.drop_of_length_le (Nat.le_refl _), List.drop_of_length_le (by omega)]
    simp
theorem spoilt_ok (h : Dr S ns) (C : Cac S ci kd es) (W : EsOk es) {en : Nat} (he : S[en]? = some (.lst (es.map Ent.row))) (h1 : en ≠ 1) : Ok (m__law_spoilt [.ref 1, .ref 0, .ref ci, .ref en] S) fun r S' => ∃ n es', r = .ref n ∧ S.length ≤ n ∧ Kp [1, kd] S S' ∧ Dr S' ns ∧ Cac S' ci kd es' ∧ S'[n]? = some (.lst (es'.map Ent.row)) ∧ EsOk es' := by
  refine ok_def rfl ?_
  have hc1 : ci ≠ 1 := fun e => by obtain ⟨a, b, c, hh, _⟩ := h.st; have := C.ins; rw [e, hh] at this; cases this
  have hk1 : kd ≠ 1 := fun e => by obtain ⟨a, b, c, hh, _⟩ := h.st; have := C.kd; rw [e, hh] at this; cases this
  have hk0 : kd ≠ 0 := fun e => by have := C.kd; rw [e, h.sc] at this; cases this
  have hek : en ≠ kd := fun e => by rw [e, C.kd] at he; cases he
  have hfew := W.few
  have hE : env0 14 [.ref 1, .ref 0, .ref ci, .ref en] = [some (.ref 1), some (.ref 0), some (.ref ci), some (.ref en), none, none, none, none, none, none, none, none, none, none] := rfl
  rw [hE]
  unfold b__law_spoilt
  refine SOk.seq ?_
  simp only [sok_asg, ok_e2, ok_eA, ok_aNil]
  refine topics4.mono fun r S1 ⟨e1, e2⟩ => ?_
  subst e1 e2
  simp only [ok_aCons, ok_aNil, ok_var0, ok_varS, ok_c]
  have d1 : Dr (S ++ [tops]) ns := h.kp Kp.push (by simp) (by simp)
  refine (draw d1 (m := 4) (by decide) (by decide)).mono fun r S2 ⟨i, e3, hi, d2, k2⟩ => ?_
  subst e3
  obtain ⟨t, ht, hat⟩ := TT_at hi
  have hlen : S.length ≠ 1 := fun z => by obtain ⟨a, b, c, hh, _⟩ := h.st; have := lt_of_at hh; omega
  rw [ok_ixL (.inl (k2.at (at_push (S := S) (o := tops)) (by simpa using hlen))) hat]
  refine ⟨_, rfl, ?_⟩
  have kk2 : Kp [1] S S2 := (Kp.push.nil).trans k2
  refine SOk.seq ?_
  simp only [gNm, List.set_cons_succ, List.set_cons_zero, sok_asg, ok_e2, ok_eLst, ok_eA, ok_aCons, ok_aNil, ok_var0, ok_varS, ok_c]
  refine ⟨leL (by simp), ?_⟩
  have d3 := d2.kp (S' := S2 ++ [.lst [.str [120], .str [], .str [122]]]) Kp.push (by simp) (by simp)
  refine (draw d3 (m := 3) (by decide) (by decide)).mono fun r S3 ⟨j, e4, hj, d4, k3⟩ => ?_
  subst e4
  have hlen2 : S2.length ≠ 1 := fun z => by obtain ⟨a, b, c, hh, _⟩ := h.st; have := lt_of_at hh; have := kk2.1; omega
  obtain ⟨c, hc, hat2⟩ : ∃ c, c ∈ CC ∧ atI [D.str [120], .str [], .str [122]] (j : Int) = some (.str c) :=
    ⟨CC[j]'hj, List.getElem_mem hj, atI_nat (xs := CC.map D.str) (by rw [List.getElem?_map, List.getElem?_eq_getElem hj]; rfl)⟩
  rw [ok_ixL (.inl (k3.at (at_push (S := S2) (o := .lst [.str [120], .str [], .str [122]])) (by simpa using hlen2))) hat2]
  refine ⟨_, rfl, ?_⟩
  have kk3 : Kp [1] S S3 := (kk2.pushM).trans k3
  refine SOk.seq ?_
  simp only [List.set_cons_succ, List.set_cons_zero, sok_asg, ok_e2, ok_eA, ok_aCons, ok_aNil, ok_var0, ok_varS, ok_c]
  have he3 := kk3.at he (by simpa using h1)
  refine (lentry_ok he3 t).mono fun r S4 ⟨e5, e6⟩ => ?_
  subst e5 e6
  rw [ok_isNotN, entD_isNon, Bool.not_not]
  refine ⟨_, rfl, ?_⟩
  refine SOk.seq ?_
  simp only [List.set_cons_succ, List.set_cons_zero, sok_asg, ok_eA, ok_aCons, ok_aNil, ok_var0, ok_varS, ok_c]
  refine (draw d4 (m := 5) (by decide) (by decide)).mono fun r S5 ⟨q, e7, hq, d5, k5⟩ => ?_
  subst e7
  have kk5 : Kp [1] S S5 := kk3.trans k5
  refine ⟨_, rfl, ?_⟩
  simp only [List.set_cons_succ, List.set_cons_zero]
  have he5 := kk5.at he (by simpa using h1)
  have C5 := C.kp kk5 (by simpa using hc1) (by simpa using hk1)
  have h15 : ∀ {n : Nat}, S.length ≤ n → n ≠ 1 := fun hn z => by obtain ⟨a, b, c, hh, _⟩ := h.st; have := lt_of_at hh; omega
  have hkl : kd < S.length := lt_of_at C.kd
  -- the two other ways' end
  have fin : ∀ (es' : List Ent) (n : Nat) (S7 : Sto) (x8 x10 x11 x13 : Option D), S.length ≤ n → Kp [1, kd] S S7 → Dr S7 ns → Cac S7 ci kd es' → S7[n]? = some (.lst (es'.map Ent.row)) → EsOk es' →
      SOk (sSeq (sIf (tOrF (tNotF (tTru (eIsi .bl (eVar 12)))) (tOfE (e2 oNe (eVar 12) (eVar 6)))) (sRet (eC .non)) sNext) (sRet (eVar 9)) [some (.ref 1), some (.ref 0), some (.ref ci), some (.ref en), some (.str t), some (.str c), some (.bl (es.any fun e => e.t == t)), some (.int q), x8, some (.ref n), x10, x11, some (.bl (es.any fun e => e.t == t)), x13] S7)
        ⟨fun _ S' => ∃ n es', D.non = .ref n ∧ S.length ≤ n ∧ Kp [1, kd] S S' ∧ Dr S' ns ∧ Cac S' ci kd es' ∧ S'[n]? = some (.lst (es'.map Ent.row)) ∧ EsOk es', fun r S' => ∃ n es', r = .ref n ∧ S.length ≤ n ∧ Kp [1, kd] S S' ∧ Dr S' ns ∧ Cac S' ci kd es' ∧ S'[n]? = some (.lst (es'.map Ent.row)) ∧ EsOk es', fun _ _ => False, fun _ _ => False⟩ := by
    intro es' n S7 x8 x10 x11 x13 hn k7 d7 c7 h7 w7
    refine SOk.seq ?_
    simp only [sok_if, ok_tOr, ok_tNot, ok_tTru, ok_isi, ok_var0, ok_varS, tyD_bl, Option.some.injEq, exists_eq_left', truD_bl, isSub, decide_true, Bool.true_or, Bool.not_true, Bool.false_eq_true, if_false, ok_tOfE, ok_e2, ok_neB, beq_self_eq_true, D.bl.injEq, sok_next, sok_ret]
    exact ⟨n, es', rfl, hn, k7, d7, c7, h7, w7⟩
  refine SOk.seq ?_
  rw [sok_if]
  simp only [ok_tOfE, ok_e2, ok_var0, ok_varS, ok_c, ok_eqI, D.bl.injEq, exists_eq_left', beq_iff_eq]
  by_cases hq4 : (q : Int) = 4
  · rw [if_pos hq4]
    refine SOk.seq ?_
    simp only [sok_asg, ok_e2, ok_orV, ok_eA, ok_aCons, ok_aNil, ok_var0, ok_varS]
    refine (lentry_ok he5 t).mono fun r S6 ⟨f1, f2⟩ => ?_
    subst f1 f2
    obtain ⟨vs, hvs, hval⟩ : ∃ vs : List (Txt × Txt), vs.length ≤ 60 ∧ ∀ {QD : D → Sto → Prop}, QD (.tup (vs.map vD)) S6 → ∃ b, truD (entD es t) S6 = some b ∧ if b = true then Ok (eC (.int 1) [some (.ref 1), some (.ref 0), some (.ref ci), some (.ref en), some (.str t), some (.str c), some (.bl (es.any fun e => e.t == t)), some (.int q), none, none, none, none, none, none] S6) (fun b S2 => Ok (oIx (entD es t) b S2) QD) else Ok (eTup (aCons (eVar 5) (aCons (eTup aNil) aNil)) [some (.ref 1), some (.ref 0), some (.ref ci), some (.ref en), some (.str t), some (.str c), some (.bl (es.any fun e => e.t == t)), some (.int q), none, none, none, none, none, none] S6) fun a S1 => Ok (eC (.int 1) [some (.ref 1), some (.ref 0), some (.ref ci), some (.ref en), some (.str t), some (.str c), some (.bl (es.any fun e => e.t == t)), some (.int q), none, none, none, none, none, none] S1) fun b S2 => Ok (oIx a b S2) QD := by
      cases hf : entOf es t with
      | none =>
        have e0 : entD es t = .non := by unfold entD; rw [hf]; rfl
        refine ⟨[], by simp, fun {QD} hQ => ⟨false, by rw [e0]; rfl, ?_⟩⟩
        simp only [Bool.false_eq_true, if_false, ok_eTup, ok_aCons, ok_aNil, ok_var0, ok_varS, ok_c]
        refine ⟨leL (by simp), leL (by simp), ?_⟩
        rw [ok_ixT (d := .tup []) rfl]
        exact hQ
      | some e =>
        have e0 : entD es t = .tup [.str e.c, .tup (e.vs.map vD)] := by unfold entD; rw [hf]; rfl
        refine ⟨e.vs, (W.sz e (entOf_mem hf).1).2.2, fun {QD} hQ => ⟨true, by rw [e0]; rfl, ?_⟩⟩
        simp only [if_true, ok_c, e0]
        rw [ok_ixT (d := .tup (e.vs.map vD)) rfl]
        exact hQ
    refine hval ⟨_, rfl, ?_⟩
    refine SOk.seq ?_
    simp only [gNm, List.set_cons_succ, List.set_cons_zero, sok_asg, ok_e2]
    refine ok_lcM (α := Ent) es Ent.row (fun e => !(e.t == t)) Ent.row ?_
    simp only [ok_iAny, ok_var0, ok_varS, anyQ_lst he5]
    refine ⟨by simp [srcList], leL (by omega), fun S' k => srcList_at (.inl (k.at he5)) _, fun e hm S' k => ⟨_, rfl, ?_⟩, fun S7 k7 hD => ?_⟩
    · have i0 : ∀ {S : Sto} {Q : D → Sto → Prop}, Ok (oIx (Ent.row e) (.int 0) S) Q = Q (.str e.t) S := fun {S Q} => ok_ixT rfl
      simp only [wipeE, List.set_cons_succ, List.set_cons_zero, ok_tOfE, ok_e2, ok_var0, ok_varS, ok_c, i0, ok_neS, D.bl.injEq, exists_eq_left']
      exact ⟨trivial, .refl, fun _ => ⟨trivial, .refl⟩⟩
    · simp only [ok_eLst, ok_eTup, ok_aCons, ok_aNil, ok_var0, ok_varS]
      refine ⟨leL (by simp), leL (by simp), ?_⟩
      have hlf := List.length_filter_le (fun e : Ent => !(e.t == t)) es
      have hD2 := (Kp.push (S := S7) (o := .lst [.tup [.str t, .str c, .tup (vs.map vD)]])).at hD
      rw [ok_addL hD2 at_push (leL (by rw [List.length_map]; simp; omega))]
      have ea : (es.filter fun e => !(e.t == t)).map Ent.row ++ [D.tup [.str t, .str c, .tup (vs.map vD)]] = (aft es t c vs).map Ent.row := by
        unfold aft; rw [List.map_append]; rfl
      rw [ea]
      refine ⟨_, rfl, ?_⟩
      have k8 : Kp [] S6 (S7 ++ [.lst [.tup [.str t, .str c, .tup (vs.map vD)]]] ++ [.lst ((aft es t c vs).map Ent.row)]) := (k7.pushM).pushM
      have hA := at_push (S := S7 ++ [.lst [.tup [.str t, .str c, .tup (vs.map vD)]]]) (o := .lst ((aft es t c vs).map Ent.row))
      generalize hn8 : (S7 ++ [O.lst [.tup [.str t, .str c, .tup (vs.map vD)]]]).length = n8 at hA
      have hn8' : S.length ≤ n8 := by
        have := kk5.1
        have := k7.1
        rw [← hn8, List.length_append]
        omega
      generalize S7 ++ [O.lst [.tup [.str t, .str c, .tup (vs.map vD)]]] ++ [O.lst ((aft es t c vs).map Ent.row)] = S8 at k8 hA
      have C8 := C5.kp k8 (by simp) (by simp)
      have d8 := d5.kp k8 (by simp) (by simp)
      refine SOk.seq ?_
      simp only [List.set_cons_succ, List.set_cons_zero]
      rw [sok_asg]
      refine ok_meth (r := ci) (c := 1) (fs := [(5, .int 3), (6, .ref kd)]) (mm := m_Cache_put) ?_
      simp only [ok_var0, ok_varS, ok_aCons, ok_aNil]
      refine ⟨trivial, C8.ins, rfl, (put_ok C8 W t c vs).mono fun r S9 ⟨k9, C9, er⟩ => ?_⟩
      subst er
      refine ⟨_, rfl, ?_⟩
      have hA9 := k9.at hA (by simp; omega)
      have d9 := d8.kp k9 (by simpa using Ne.symm hk0) (by simpa using Ne.symm hk1)
      refine SOk.seq ?_
      simp only [gNm, List.set_cons_succ, List.set_cons_zero, sok_asg, ok_eIf, ok_tOfE, ok_e2, ok_eA, ok_aCons, ok_aNil, ok_var0, ok_varS, ok_lenL (.inl hA9), ok_c, ok_lt, D.bl.injEq, exists_eq_left', decide_eq_true_eq, List.length_map]
      have hdue : ∀ {QD : D → Sto → Prop}, QD (if (aft es t c vs).length < 4 then .non else (((aft es t c vs)[0]?).map fun e => D.str e.t).getD .non) S9 → if ((aft es t c vs).length : Int) < 4 then QD .non S9 else Ok (oIx (.ref n8) (.int 0) S9) fun a S1 => Ok (oIx a (.int 0) S1) QD := fun {QD} hQ => by
        by_cases hl : (aft es t c vs).length < 4
        · rw [if_pos (by omega)]
          rw [if_pos hl] at hQ
          exact hQ
        · rw [if_neg (by omega)]
          rw [if_neg hl] at hQ
          have h0 : (aft es t c vs)[0]? = some ((aft es t c vs)[0]'(by omega)) := List.getElem?_eq_getElem _
          rw [h0] at hQ
          have hat0 : atI ((aft es t c vs).map Ent.row) 0 = some (Ent.row ((aft es t c vs)[0]'(by omega))) := atI_nat (j := 0) (by rw [List.getElem?_map, h0]; rfl)
          rw [ok_ixL (.inl hA9) hat0]
          unfold Ent.row
          rw [ok_ixT (d := .str ((aft es t c vs)[0]'(by omega)).t) rfl]
          exact hQ
      refine hdue ⟨_, rfl, ?_⟩
      generalize hgd : (if (aft es t c vs).length < 4 then D.non else (((aft es t c vs)[0]?).map fun e => D.str e.t).getD .non) = gd
      have hpl : plainD 8 gd = true := by
        rw [← hgd]
        split
        · rfl
        · cases (aft es t c vs)[0]? <;> rfl
      simp only [List.set_cons_succ, List.set_cons_zero, sok_ret, ok_eIf, ok_tTru, ok_eA, ok_aCons, ok_aNil, ok_var0, ok_varS]
      refine (same39 8 gd S9 hpl).mono fun r S10 ⟨g1, g2⟩ => ?_
      subst g1 g2
      refine ⟨true, rfl, ?_⟩
      simp only [if_true, ok_eSl, ok_part, ok_noP, ok_eA, ok_aCons, ok_aNil, ok_e2, ok_var0, ok_varS, ok_c, ok_lenL (.inl hA9), List.length_map, ok_sub]
      have hmax : ∀ {QD : D → Sto → Prop}, Ok (oMax2 [.int 0, .int (((aft es t c vs).length : Int) - 3)] S10) QD = QD (.int (((aft es t c vs).length - 3 : Nat) : Int)) S10 := fun {QD} => by
        have e : (if ((aft es t c vs).length : Int) - 3 > 0 then ((aft es t c vs).length : Int) - 3 else 0) = (((aft es t c vs).length - 3 : Nat) : Int) := by
          by_cases hh : ((aft es t c vs).length : Int) - 3 > 0
          · rw [if_pos hh]; omega
          · rw [if_neg hh]; omega
        rw [← e]
        exact ok_ok
      rw [hmax]
      refine ⟨_, rfl, ?_⟩
      rw [ok_slL hA9, cut_drop, ← List.map_drop]
      have k10 : Kp [1, kd] S S10 := (kk5.mono (by simp)).trans ((k8.nil).trans (k9.mono (by simp)))
      exact ⟨_, _, rfl, k10.1, k10.pushM, d9.kp Kp.push (by simp) (by simp), C9.kp Kp.push (by simp) (by simp), at_push, aft_ok W ht hc hvs⟩
  · rw [if_neg hq4, sok_next]
    refine SOk.seq ?_
    rw [sok_if]
    simp only [ok_tOfE, ok_e2, ok_var0, ok_varS, ok_c, ok_gt, D.bl.injEq, exists_eq_left', decide_eq_true_eq]
    by_cases hq1 : (1 : Int) < q
    · rw [if_pos hq1]
      refine SOk.seq ?_
      rw [sok_asg]
      refine ok_meth (r := ci) (c := 1) (fs := [(5, .int 3), (6, .ref kd)]) (mm := m_Cache_spoil) ?_
      simp only [ok_var0, ok_varS, ok_aCons, ok_aNil]
      refine ⟨trivial, C5.ins, rfl, (spoil_ok C5 W t c).mono fun r S6 ⟨k6, C6, er⟩ => ?_⟩
      subst er
      refine ⟨_, rfl, ?_⟩
      have d6 := d5.kp k6 (by simpa using Ne.symm hk0) (by simpa using Ne.symm hk1)
      have kk6 : Kp [1, kd] S S6 := (kk5.mono (by simp)).trans (k6.mono (by simp))
      have he6 := k6.at he5 (by simpa using hek)
      have hn6 : S.length ≤ S6.length := kk6.1
      refine SOk.seq ?_
      simp only [gNm, List.set_cons_succ, List.set_cons_zero, sok_asg, ok_eLst, ok_aNil]
      refine ⟨leL (by simp), _, rfl, ?_⟩
      have henl : en < S6.length := lt_of_at he6
      refine sok_forL (ds := es.map Ent.row) (r := en) (fun i E S' => Kp [] S6 S' ∧ S'[S6.length]? = some (.lst ((chg (es.take i) t c).map Ent.row)) ∧ ∃ x, E = [some (.ref 1), some (.ref 0), some (.ref ci), some (.ref en), some (.str t), some (.str c), some (.bl (es.any fun e => e.t == t)), some (.int q), none, some (.ref S6.length), none, none, some (.bl (es.any fun e => e.t == t)), x]) ?_
      simp only [ok_var0, ok_varS]
      refine ⟨trivial, Kp.push.at (M := []) he6, ⟨Kp.push, at_push, _, rfl⟩, fun i E S' hI => hI.1.at he6, ?_, ?_⟩
      · rintro i d E S7 hd ⟨k7, h7, x, rfl⟩
        rw [List.getElem?_map] at hd
        obtain ⟨e, hee, rfl⟩ := Option.map_eq_some_iff.mp hd
        have hm := List.mem_of_getElem? hee
        refine ⟨_, rfl, ?_⟩
        have i0 : ∀ {S : Sto} {Q : D → Sto → Prop}, Ok (oIx (Ent.row e) (.int 0) S) Q = Q (.str e.t) S := fun {S Q} => ok_ixT rfl
        have i2 : ∀ {S : Sto} {Q : D → Sto → Prop}, Ok (oIx (Ent.row e) (.int 2) S) Q = Q (.tup (e.vs.map vD)) S := fun {S Q} => ok_ixT rfl
        have hilt : i < es.length := (List.getElem?_eq_some_iff.mp hee).1
        have h8 := (Kp.push (S := S7) (o := .lst [Ent.row e, .tup [.str t, .str c, .tup (e.vs.map vD)]])).at h7
        have hrow : ∀ {Q : D → Sto → Prop}, Ok (oIx (.ref S7.length) (.int (if (e.t == t) = true then 1 else 0)) (S7 ++ [.lst [Ent.row e, .tup [.str t, .str c, .tup (e.vs.map vD)]]])) Q = Q (Ent.row (if (e.t == t) = true then ⟨e.t, c, e.vs⟩ else e)) (S7 ++ [.lst [Ent.row e, .tup [.str t, .str c, .tup (e.vs.map vD)]]]) := fun {Q} => by
          by_cases hx : (e.t == t) = true
          · rw [if_pos hx, if_pos hx]
            have ex : e.t = t := by simpa using hx
            refine ok_ixL (.inl at_push) ?_
            rw [← ex]
            rfl
          · rw [if_neg hx, if_neg hx]
            exact ok_ixL (.inl at_push) rfl
        simp only [List.set_cons_succ, List.set_cons_zero, sok_expr, ok_eMt, ok_var0, ok_varS, hasTy_lst h7, true_and, ok_aCons, ok_aNil, ok_e2, ok_eLst, ok_eTup, ok_eA, ok_c, i0, i2, ok_eqS, ok_intB, hrow]
        refine ⟨leL (by simp), leL (by simp), ?_⟩
        have hcl : ((chg (es.take i) t c).map Ent.row).length ≤ 60 := by
          unfold chg
          rw [List.length_map, List.length_map, List.length_take]
          omega
        rw [ok_append h8 (ltL (by omega))]
        refine ⟨(k7.pushM).setNew (Nat.le_refl _), ?_, _, rfl⟩
        rw [at_set h8]
        have htake : es.take (i + 1) = es.take i ++ [e] := by rw [List.take_succ, hee]; rfl
        rw [htake]
        unfold chg
        rw [List.map_append, List.map_append]
        rfl
      · rintro E S7 ⟨k7, h7, x, rfl⟩
        rw [List.length_map, List.take_length] at h7
        exact fin (chg es t c) S6.length S7 none none none x hn6 (kk6.trans k7.nil) (d6.kp k7 (by simp) (by simp)) (C6.kp k7 (by simp) (by simp)) h7 (chg_ok W hc)
    · rw [if_neg hq1]
      refine SOk.seq ?_
      rw [sok_asg]
      refine ok_meth (r := ci) (c := 1) (fs := [(5, .int 3), (6, .ref kd)]) (mm := m_Cache_lose) ?_
      simp only [ok_var0, ok_varS, ok_aCons, ok_aNil]
      refine ⟨trivial, C5.ins, rfl, (lose_ok C5 t).mono fun r S6 ⟨k6, C6, er⟩ => ?_⟩
      subst er
      refine ⟨_, rfl, ?_⟩
      have d6 := d5.kp k6 (by simpa using Ne.symm hk0) (by simpa using Ne.symm hk1)
      have kk6 : Kp [1, kd] S S6 := (kk5.mono (by simp)).trans (k6.mono (by simp))
      have he6 := k6.at he5 (by simpa using hek)
      simp only [gNm, List.set_cons_succ, List.set_cons_zero]
      rw [sok_asg]
      refine ok_lcM (α := Ent) es Ent.row (fun e => !(e.t == t)) Ent.row ?_
      simp only [ok_iAny, ok_var0, ok_varS, anyQ_lst he6]
      refine ⟨by simp [srcList], leL (by omega), fun S' k => srcList_at (.inl (k.at he6)) _, fun e hm S' k => ⟨_, rfl, ?_⟩, fun S7 k7 hD => ⟨_, rfl, ?_⟩⟩
      · have i0 : ∀ {S : Sto} {Q : D → Sto → Prop}, Ok (oIx (Ent.row e) (.int 0) S) Q = Q (.str e.t) S := fun {S Q} => ok_ixT rfl
        simp only [wipeE, List.set_cons_succ, List.set_cons_zero, ok_tOfE, ok_e2, ok_var0, ok_varS, ok_c, i0, ok_neS, D.bl.injEq, exists_eq_left']
        exact ⟨trivial, .refl, fun _ => ⟨trivial, .refl⟩⟩
      · exact fin (es.filter fun e => !(e.t == t)) S6.length S7 none none none none kk6.1 (kk6.trans k7.nil) (d6.kp k7 (by simp) (by simp)) (C6.kp k7 (by simp) (by simp)) hD (W.sub List.filter_sublist)
end K39
end OfK39G

section OfK39H
set_option Elab.async false
set_option linter.all false
set_option maxRecDepth 100000
namespace K39
open PySem PySem.Spec PyProof.Rows L2 DL

variable {S S' : Sto} {need : Int} {rows : List Row} {gone : List Txt} {ci kd : Nat} {es : List Ent} {ns : List Int}
structure RowsSz (rows : List Row) : Prop where
  h : ∀ r ∈ rows, r.h.length ≤ 10
  m : ∀ r ∈ rows, r.m.length ≤ 10
  few : rows.length ≤ 19
theorem cut_len {α : Type} (xs : List α) (lo hi : Option Int) : (cutL xs lo hi).length ≤ xs.length := by
  unfold cutL
  rw [List.length_take, List.length_drop]
  omega
theorem vouchers_ok (h : Dr S ns) (hh : S[7]? = some (.lst (houses.map D.str))) (hs : S[8]? = some (.lst (rows.map Row.d))) (W : RowsSz rows) : Ok (m__law_vouchers [.ref 1, .ref 0, .ref 7, .ref 8] S) fun r S' => ∃ vs : List (Txt × Txt), r = .tup (vs.map vD) ∧ vs.length ≤ 60 ∧ Kp [1] S S' ∧ Dr S' ns := by
  refine ok_def rfl ?_
  have hlen1 : 1 < S.length := by obtain ⟨a, b, c, e, _⟩ := h.st; exact lt_of_at e
  have hlen8 : 8 < S.length := lt_of_at hs
  have hE : env0 7 [.ref 1, .ref 0, .ref 7, .ref 8] = [some (.ref 1), some (.ref 0), some (.ref 7), some (.ref 8), none, none, none] := rfl
  rw [hE]
  unfold b__law_vouchers
  have hfew := W.few
  refine SOk.seq ?_
  simp only [sok_asg, ok_eLst, ok_eTup, ok_aCons, ok_aNil, ok_c]
  refine ⟨leL (by simp), leL (by simp), _, rfl, ?_⟩
  simp only [List.set_cons_succ, List.set_cons_zero]
  refine SOk.seq ?_
  refine sok_forL (ds := rows.map Row.d) (r := 8) (fun i E S' => ∃ (vs : List (Txt × Txt)) (x y : Option D), E = [some (.ref 1), some (.ref 0), some (.ref 7), some (.ref 8), some (.ref S.length), x, y] ∧ Kp [1] S S' ∧ Dr S' ns ∧ S'[S.length]? = some (.lst (vs.map vD)) ∧ vs.length ≤ 1 + i) ?_
  simp only [ok_var0, ok_varS]
  refine ⟨trivial, Kp.push.at (M := []) hs, ⟨[([104, 48], [104, 48, 45, 57, 57])], _, _, rfl, Kp.push.nil, h.kp Kp.push (by simp) (by simp), at_push, by simp⟩, fun i E S' ⟨vs, x, y, _, k, _⟩ => k.at hs (by decide), ?_, ?_⟩
  · rintro i d E S1 hd ⟨vs, x, y, rfl, k1, d1, hv, hvl⟩
    rw [List.getElem?_map] at hd
    obtain ⟨r, hr, rfl⟩ := Option.map_eq_some_iff.mp hd
    have hm := List.mem_of_getElem? hr
    have hilt : i < rows.length := (List.getElem?_eq_some_iff.mp hr).1
    have hrh := W.h r hm
    have hrm := W.m r hm
    have j0 : ∀ {S : Sto} {Q : D → Sto → Prop}, Ok (oIx r.d (.int 0) S) Q = Q (.str r.h) S := fun {S Q} => ok_ixT rfl
    have j1 : ∀ {S : Sto} {Q : D → Sto → Prop}, Ok (oIx r.d (.int 1) S) Q = Q (.str r.m) S := fun {S Q} => ok_ixT rfl
    have hne : S.length ≠ 1 := by omega
    refine ⟨_, rfl, ?_⟩
    refine SOk.seq ?_
    simp only [List.set_cons_succ, List.set_cons_zero, sok_asg, ok_eA, ok_aCons, ok_aNil, ok_var0, ok_varS, ok_c]
    refine (draw d1 (m := 6) (by decide) (by decide)).mono fun r' S2 ⟨q, e1, hq, d2, k2⟩ => ?_
    subst e1
    refine ⟨_, rfl, ?_⟩
    have kk2 := k1.trans k2
    have hv2 := k2.at hv (by simpa using hne)
    refine SOk.seq ?_
    simp only [gNm, List.set_cons_succ, List.set_cons_zero]
    rw [sok_if]
    simp only [ok_tOfE, ok_e2, ok_var0, ok_varS, ok_c, ok_gt, D.bl.injEq, exists_eq_left', decide_eq_true_eq]
    -- the second if
    have snd : ∀ (S3 : Sto) (vs3 : List (Txt × Txt)), Kp [1] S S3 → Dr S3 ns → S3[S.length]? = some (.lst (vs3.map vD)) → (vs3.length ≤ 1 + i ∨ (vs3.length ≤ 1 + (i + 1) ∧ ¬ (q : Int) = 1)) →
        SOk (sIf (tOfE (e2 oEq (eVar 6) (eC (.int 1)))) (sExpr (eMt .lst mAppend (eVar 4) (aCons (eTup (aCons (e2 oIx (eVar 5) (eC (.int 0))) (aCons (e2 oIx (eLst (aCons (e2 oAdd (eC (.str [122, 122])) (e2 oIx (eVar 5) (eC (.int 1)))) (aCons (eSl (e2 oIx (eVar 5) (eC (.int 1))) (oPart (eC (.int 1))) oNoP) (aCons (e2 oAdd (e2 oIx (eVar 5) (eC (.int 1))) (eC (.str [32]))) (aCons (e2 oAdd (eC (.str [104, 57])) (eSl (e2 oIx (eVar 5) (eC (.int 1))) (oPart (eC (.int 2))) oNoP)) aNil))))) (eA m__law_next (aCons (eVar 0) (aCons (eVar 1) (aCons (eC (.int 4)) aNil))))) aNil))) aNil))) sNext [some (.ref 1), some (.ref 0), some (.ref 7), some (.ref 8), some (.ref S.length), some r.d, some (.int q)] S3)
          ⟨fun E S' => ∃ (vs : List (Txt × Txt)) (x y : Option D), E = [some (.ref 1), some (.ref 0), some (.ref 7), some (.ref 8), some (.ref S.length), x, y] ∧ Kp [1] S S' ∧ Dr S' ns ∧ S'[S.length]? = some (.lst (vs.map vD)) ∧ vs.length ≤ 1 + (i + 1), fun _ _ => False, fun _ _ => False, fun _ _ => False⟩ := by
      intro S3 vs3 k3 d3 hv3 hl3
      rw [sok_if]
      simp only [ok_tOfE, ok_e2, ok_var0, ok_varS, ok_c, ok_eqI, D.bl.injEq, exists_eq_left', beq_iff_eq]
      by_cases hq1 : (q : Int) = 1
      · rw [if_pos hq1]
        have hl3' : vs3.length ≤ 1 + i := by
          rcases hl3 with z | z
          · exact z
          · exact absurd hq1 z.2
        have c1 := cut_len r.m (some 1) none
        have c2 := cut_len r.m (some 2) none
        simp only [sok_expr, ok_eMt, ok_var0, ok_varS, hasTy_lst hv3, true_and, ok_aCons, ok_aNil, ok_eTup, ok_e2, ok_eLst, ok_eSl, ok_part, ok_noP, ok_eA, ok_c, j0, j1, ok_addS, ok_slS, D.int.injEq, exists_eq_left']
        refine ⟨leL (by simp; omega), leL (by omega), leL (by simp; omega), leL (by omega), leL (by simp; omega), leL (by simp), ?_⟩
        have d4 := d3.kp (S' := S3 ++ [O.lst [.str ([122, 122] ++ r.m), .str (cutL r.m (some 1) none), .str (r.m ++ [32]), .str ([104, 57] ++ cutL r.m (some 2) none)]]) Kp.push (by simp) (by simp)
        refine (draw d4 (m := 4) (by decide) (by decide)).mono fun r' S5 ⟨p, e1, hp, d5, k5⟩ => ?_
        subst e1
        obtain ⟨x, hx⟩ : ∃ x : Txt, atI [D.str ([122, 122] ++ r.m), .str (cutL r.m (some 1) none), .str (r.m ++ [32]), .str ([104, 57] ++ cutL r.m (some 2) none)] (p : Int) = some (.str x) := by
          have hp2 : p < ([[122, 122] ++ r.m, cutL r.m (some 1) none, r.m ++ [32], [104, 57] ++ cutL r.m (some 2) none] : List Txt).length := hp
          exact ⟨_, atI_nat (xs := ([[122, 122] ++ r.m, cutL r.m (some 1) none, r.m ++ [32], [104, 57] ++ cutL r.m (some 2) none] : List Txt).map D.str) (by rw [List.getElem?_map, List.getElem?_eq_getElem hp2]; rfl)⟩
        have hl3n : S3.length ≠ 1 := by have := k3.1; omega
        rw [ok_ixL (.inl (k5.at at_push (by simpa using hl3n))) hx]
        refine ⟨leL (by simp), ?_⟩
        have k6 := (k3.pushM (o := O.lst [.str ([122, 122] ++ r.m), .str (cutL r.m (some 1) none), .str (r.m ++ [32]), .str ([104, 57] ++ cutL r.m (some 2) none)])).trans k5
        have hv5 := k5.at (Kp.push.at (M := []) hv3) (by simpa using hne)
        rw [ok_append hv5 (ltL (by rw [List.length_map]; omega))]
        refine ⟨vs3 ++ [(r.h, x)], _, _, rfl, k6.setN (Nat.le_refl _), d5.kp Kp.set (by simp; omega) (by simp; omega), ?_, by simp; omega⟩
        rw [at_set hv5, List.map_append]
        rfl
      · rw [if_neg hq1, sok_next]
        exact ⟨vs3, _, _, rfl, k3, d3, hv3, by rcases hl3 with z | z <;> omega⟩
    by_cases hq1 : (1 : Int) < q
    · rw [if_pos hq1]
      simp only [sok_expr, ok_eMt, ok_var0, ok_varS, hasTy_lst hv2, true_and, ok_aCons, ok_aNil, ok_eTup, ok_e2, ok_c, j0, j1]
      refine ⟨leL (by simp), ?_⟩
      rw [ok_append hv2 (ltL (by rw [List.length_map]; omega))]
      refine SOk.mono (snd _ (vs ++ [(r.h, r.m)]) (kk2.setN (Nat.le_refl _)) (d2.kp Kp.set (by simp; omega) (by simp; omega)) ?_ (.inr ⟨by simp; omega, by omega⟩)) (fun _ _ z => z) (fun _ _ z => z.elim) (fun _ _ z => z.elim) (fun _ _ z => z.elim)
      rw [at_set hv2, List.map_append]
      rfl
    · rw [if_neg hq1, sok_next]
      exact SOk.mono (snd _ vs kk2 d2 hv2 (.inl hvl)) (fun _ _ z => z) (fun _ _ z => z.elim) (fun _ _ z => z.elim) (fun _ _ z => z.elim)
  · rintro E S1 ⟨vs, x, y, rfl, k1, d1, hv, hvl⟩
    rw [List.length_map] at hvl
    have hne : S.length ≠ 1 := by omega
    -- the last part, from any list of few
    have last : ∀ (n : Nat) (S3 : Sto) (vs3 : List (Txt × Txt)), S.length ≤ n → Kp [1] S S3 → Dr S3 ns → S3[n]? = some (.lst (vs3.map vD)) → vs3.length ≤ 50 →
        SOk (sSeq (sIf (tAndF (tOfE (e2 oGt (eA oLen (aCons (eVar 3) aNil)) (eC (.int 0)))) (tOfE (e2 oEq (eA m__law_next (aCons (eVar 0) (aCons (eVar 1) (aCons (eC (.int 3)) aNil)))) (eC (.int 0))))) (sExpr (eMt .lst mAppend (eVar 4) (aCons (eTup (aCons (e2 oIx (eVar 2) (eA m__law_next (aCons (eVar 0) (aCons (eVar 1) (aCons (eC (.int 5)) aNil))))) (aCons (e2 oIx (e2 oIx (eVar 3) (eC (.int 0))) (eC (.int 1))) aNil))) aNil))) sNext) (sRet (eA oTuple (aCons (eVar 4) aNil))) [some (.ref 1), some (.ref 0), some (.ref 7), some (.ref 8), some (.ref n), x, y] S3)
          ⟨fun _ S' => ∃ vs : List (Txt × Txt), D.non = .tup (vs.map vD) ∧ vs.length ≤ 60 ∧ Kp [1] S S' ∧ Dr S' ns, fun r S' => ∃ vs : List (Txt × Txt), r = .tup (vs.map vD) ∧ vs.length ≤ 60 ∧ Kp [1] S S' ∧ Dr S' ns, fun _ _ => False, fun _ _ => False⟩ := by
      intro n S3 vs3 hn k3 d3 hv3 hl3
      have hn1 : n ≠ 1 := by omega
      have end_ : ∀ (S4 : Sto) (vs4 : List (Txt × Txt)), Kp [1] S S4 → Dr S4 ns → S4[n]? = some (.lst (vs4.map vD)) → vs4.length ≤ 60 → SOk (sRet (eA oTuple (aCons (eVar 4) aNil)) [some (.ref 1), some (.ref 0), some (.ref 7), some (.ref 8), some (.ref n), x, y] S4)
          ⟨fun _ S' => ∃ vs : List (Txt × Txt), D.non = .tup (vs.map vD) ∧ vs.length ≤ 60 ∧ Kp [1] S S' ∧ Dr S' ns, fun r S' => ∃ vs : List (Txt × Txt), r = .tup (vs.map vD) ∧ vs.length ≤ 60 ∧ Kp [1] S S' ∧ Dr S' ns, fun _ _ => False, fun _ _ => False⟩ := by
        intro S4 vs4 k4 d4 hv4 hl4
        simp only [sok_ret, ok_eA, ok_aCons, ok_aNil, ok_var0, ok_varS, ok_tupL hv4]
        exact ⟨vs4, rfl, hl4, k4, d4⟩
      have hs3 := k3.at hs (by decide)
      refine SOk.seq ?_
      rw [sok_if]
      simp only [ok_tAnd, ok_tOfE, ok_e2, ok_eA, ok_aCons, ok_aNil, ok_var0, ok_varS, ok_c, ok_lenL (.inl hs3), ok_gt, D.bl.injEq, exists_eq_left', decide_eq_true_eq, List.length_map]
      by_cases hr0 : (0 : Int) < rows.length
      · rw [if_pos hr0]
        refine (draw d3 (m := 3) (by decide) (by decide)).mono fun r' S4 ⟨p, e1, hp, d4, k4⟩ => ?_
        subst e1
        have kk4 := k3.trans k4
        have hv4 := k4.at hv3 (by simpa using hn1)
        simp only [ok_eqI, D.bl.injEq, exists_eq_left', beq_iff_eq]
        by_cases hp0 : (p : Int) = 0
        · rw [if_pos hp0]
          simp only [sok_expr, ok_eMt, ok_var0, ok_varS, hasTy_lst hv4, true_and, ok_aCons, ok_aNil, ok_eTup, ok_e2, ok_eA, ok_c]
          refine (draw d4 (m := 5) (by decide) (by decide)).mono fun r' S5 ⟨p2, e1, hp2, d5, k5⟩ => ?_
          subst e1
          have kk5 := kk4.trans k5
          have hv5 := k5.at hv4 (by simpa using hn1)
          have hh5 := kk5.at hh (by decide)
          have hs5 := kk5.at hs (by decide)
          have hat : atI (houses.map D.str) (p2 : Int) = some (.str (houses[p2]'hp2)) := atI_nat (by rw [List.getElem?_map, List.getElem?_eq_getElem (show p2 < houses.length from hp2)]; rfl)
          have h0 : rows[0]? = some (rows[0]'(by omega)) := List.getElem?_eq_getElem _
          have hat0 : atI (rows.map Row.d) 0 = some (Row.d (rows[0]'(by omega))) := atI_nat (j := 0) (by rw [List.getElem?_map, h0]; rfl)
          have j1 : ∀ {S : Sto} {Q : D → Sto → Prop}, Ok (oIx (Row.d (rows[0]'(by omega))) (.int 1) S) Q = Q (.str (rows[0]'(by omega)).m) S := fun {S Q} => ok_ixT rfl
          rw [ok_ixL (.inl hh5) hat, ok_ixL (.inl hs5) hat0, j1]
          refine ⟨leL (by simp), ?_⟩
          rw [ok_append hv5 (ltL (by rw [List.length_map]; omega))]
          refine end_ _ (vs3 ++ [(houses[p2]'hp2, (rows[0]'(by omega)).m)]) (kk5.setN hn) (d5.kp Kp.set (by simp; omega) (by simp; omega)) ?_ (by simp; omega)
          rw [at_set hv5, List.map_append]
          rfl
        · rw [if_neg hp0, sok_next]
          exact end_ _ vs3 kk4 d4 hv4 (by omega)
      · rw [if_neg hr0]
        simp only [Bool.false_eq_true, if_false, sok_next]
        exact end_ _ vs3 k3 d3 hv3 (by omega)
    refine SOk.seq ?_
    rw [sok_if]
    simp only [ok_tOfE, ok_e2, ok_eA, ok_aCons, ok_aNil, ok_var0, ok_varS, ok_c]
    refine (draw d1 (m := 3) (by decide) (by decide)).mono fun r' S2 ⟨p, e1, hp, d2, k2⟩ => ?_
    subst e1
    have kk2 := k1.trans k2
    have hv2 := k2.at hv (by simpa using hne)
    simp only [ok_eqI, D.bl.injEq, exists_eq_left', beq_iff_eq]
    by_cases hp0 : (p : Int) = 0
    · rw [if_pos hp0]
      simp only [sok_asg, ok_e2, ok_var0, ok_varS, ok_addL hv2 hv2 (leL (by rw [List.length_map]; omega))]
      refine ⟨_, rfl, ?_⟩
      simp only [List.set_cons_succ, List.set_cons_zero]
      rw [← List.map_append]
      exact last _ _ (vs ++ vs) kk2.1 kk2.pushM (d2.kp Kp.push (by simp) (by simp)) at_push (by simp; omega)
    · rw [if_neg hp0, sok_next]
      exact last _ _ vs (Nat.le_refl _) kk2 d2 hv2 (by omega)
end K39
end OfK39H

section OfK39I
set_option Elab.async false
set_option linter.all false
set_option maxRecDepth 100000
namespace K39
open PySem PySem.Spec PyProof.Rows L2 DL

variable {S S' : Sto} {need : Int} {rows : List Row} {gone : List Txt} {ci kd : Nat} {es : List Ent} {ns : List Int}
def rosO (need : Int) : O := .ins 0 [(0, .int need), (1, .ref 3), (2, .ref 4), (3, .ref 5), (4, .ref 6)]
theorem rinit_ok {F T : O} : Ok (m_Roster___init__ [.ref 2, .int need] [F, T, .ins 0 []]) fun r S' => r = .non ∧ S' = [F, T, rosO need, .dic [], .dic [], .dic [], .dic []] := by
  refine ok_def rfl ?_
  have hE : env0 2 [.ref 2, .int need] = [some (.ref 2), some (.int need)] := rfl
  rw [hE]
  unfold b_Roster___init__
  refine SOk.seq ?_
  simp only [sok_fldS, ok_var0, ok_varS]
  refine ⟨2, 0, [], rfl, rfl, rfl, by decide, ?_⟩
  have e1 : ([F, T, .ins 0 []] : Sto).set 2 (.ins 0 (putN 0 (.int need) [])) = [F, T, .ins 0 [(0, .int need)]] := rfl
  rw [e1]
  refine SOk.seq ?_
  simp only [sok_fldS, ok_var0, ok_dict0]
  refine ⟨2, 0, [(0, .int need)], rfl, rfl, rfl, by simp, ?_⟩
  have e2 : ([F, T, .ins 0 [(0, .int need)]] ++ [.dic []] : Sto).set 2 (.ins 0 (putN 1 (.ref ([F, T, .ins 0 [(0, .int need)]] : Sto).length) [(0, .int need)])) = [F, T, .ins 0 [(0, .int need), (1, .ref 3)], .dic []] := rfl
  rw [e2]
  refine SOk.seq ?_
  simp only [sok_fldS, ok_var0, ok_dict0]
  refine ⟨2, 0, [(0, .int need), (1, .ref 3)], rfl, rfl, rfl, by simp, ?_⟩
  have e3 : ([F, T, .ins 0 [(0, .int need), (1, .ref 3)], .dic []] ++ [.dic []] : Sto).set 2 (.ins 0 (putN 2 (.ref ([F, T, .ins 0 [(0, .int need), (1, .ref 3)], .dic []] : Sto).length) [(0, .int need), (1, .ref 3)])) = [F, T, .ins 0 [(0, .int need), (1, .ref 3), (2, .ref 4)], .dic [], .dic []] := rfl
  rw [e3]
  refine SOk.seq ?_
  simp only [sok_fldS, ok_var0, ok_dict0]
  refine ⟨2, 0, [(0, .int need), (1, .ref 3), (2, .ref 4)], rfl, rfl, rfl, by simp, ?_⟩
  have e4 : ([F, T, .ins 0 [(0, .int need), (1, .ref 3), (2, .ref 4)], .dic [], .dic []] ++ [.dic []] : Sto).set 2 (.ins 0 (putN 3 (.ref ([F, T, .ins 0 [(0, .int need), (1, .ref 3), (2, .ref 4)], .dic [], .dic []] : Sto).length) [(0, .int need), (1, .ref 3), (2, .ref 4)])) = [F, T, .ins 0 [(0, .int need), (1, .ref 3), (2, .ref 4), (3, .ref 5)], .dic [], .dic [], .dic []] := rfl
  rw [e4]
  exact ⟨2, 0, [(0, .int need), (1, .ref 3), (2, .ref 4), (3, .ref 5)], rfl, rfl, rfl, by simp, trivial, rfl⟩
theorem cinit_ok : Ok (m_Cache___init__ [.ref S.length, .int 3] (S ++ [.ins 1 []])) fun r S' => r = .non ∧ Kp [] S S' ∧ Cac S' S.length (S.length + 1) [] ∧ S'.length = S.length + 2 := by
  refine ok_def rfl ?_
  have hE : env0 2 [.ref S.length, .int 3] = [some (.ref S.length), some (.int 3)] := rfl
  rw [hE]
  unfold b_Cache___init__
  refine SOk.seq ?_
  simp only [sok_fldS, ok_var0, ok_varS]
  refine ⟨S.length, 1, [], rfl, at_push, rfl, by decide, ?_⟩
  have e1 : (S ++ [.ins 1 []] : Sto).set S.length (.ins 1 (putN 5 (.int 3) [])) = S ++ [.ins 1 [(5, .int 3)]] := by
    rw [List.set_append_right _ _ (Nat.le_refl _)]; simp [putN]
  rw [e1]
  simp only [ok_var0, ok_dict0]
  refine ⟨S.length, 1, [(5, .int 3)], rfl, Kp.push.at (M := []) at_push, rfl, by simp, ?_⟩
  have e2 : (S ++ [.ins 1 [(5, .int 3)]] ++ [.dic []] : Sto).set S.length (.ins 1 (putN 6 (.ref (S ++ [.ins 1 [(5, .int 3)]] : Sto).length) [(5, .int 3)])) = S ++ [.ins 1 [(5, .int 3), (6, .ref (S.length + 1))]] ++ [.dic []] := by
    rw [List.append_assoc, List.set_append_right _ _ (Nat.le_refl _), List.append_assoc]; simp [putN]
  rw [e2]
  refine ⟨trivial, Kp.push.pushM, ⟨Kp.push.at (M := []) at_push, ?_⟩, by simp⟩
  rw [List.getElem?_append_right (by simp)]
  simp
/-! ### the houses -/
theorem add_ok {kvs : List (D × D)} {h : Txt} {T : O} (hT : T = rosO need) (h2 : S[2]? = some T) (h3 : S[3]? = some (.dic kvs)) (hn : dGet kvs (.str h) = none) (hl : kvs.length < 20) :
    Ok (m_Roster_add [.ref 2, .str h] S) fun r S' => S' = S.set 3 (.dic (dPut kvs (.str h) (.int 0))) := by
  refine ok_def rfl ?_
  have hE : env0 2 [.ref 2, .str h] = [some (.ref 2), some (.str h)] := rfl
  rw [hE]
  unfold b_Roster_add
  have f1 : ∀ {Q : D → Prop}, (∃ r' c' fs' x', D.ref 2 = .ref r' ∧ S[r']? = some (.ins c' fs') ∧ [0].contains c' = true ∧ fs'.lookup 1 = some x' ∧ Q x') = Q (.ref 3) := fun {Q} => fld_eq (Q := fun d _ => Q d) (hT ▸ h2) rfl rfl
  refine SOk.seq ?_
  simp only [sok_if, ok_tOfE, ok_e2, ok_var0, ok_varS, ok_fld, f1, ok_in (oInB_dic (k := .str h) h3 rfl), hn, Option.isSome_none, D.bl.injEq, exists_eq_left', Bool.false_eq_true, if_false, sok_next]
  refine SOk.seq ?_
  have hl2 : Ok (oLen [.ref 3] S) = fun (Q : D → Sto → Prop) => Q (.int kvs.length) S := funext fun Q => by simp [oLen, h3]
  simp only [sok_if, ok_tOfE, ok_e2, ok_eA, ok_aCons, ok_aNil, ok_var0, ok_varS, ok_fld, f1, hl2, ok_c, ok_ge, D.bl.injEq, exists_eq_left', decide_eq_true_eq]
  rw [if_neg (by omega)]
  simp only [sok_next, sok_sub, ok_c, ok_fld, ok_var0, ok_varS, f1]
  exact ⟨_, stSub_dic h3 rfl (ltL (by omega)), rfl⟩
theorem hs_at : ∀ i : Nat, i < 5 → houses[i]? = some ([104] ++ sInt (i : Int)) := by
  have : ∀ i ∈ List.range 5, houses[i]? = some ([104] ++ sInt (i : Int)) := by decide +kernel
  exact fun i hi => this i (List.mem_range.mpr hi)
theorem hs_len : ∀ h ∈ houses, h.length = 2 := by decide
theorem hs_nd : houses.Nodup := by decide
theorem dGet_new {α : Type} (f : α → D) (x : Txt) : ∀ l : List Txt, x ∉ l → dGet (l.map fun h => (D.str h, D.int 0)) (.str x) = none
  | [], _ => rfl
  | a :: r, h => by
    have ih := dGet_new f x r (fun z => h (List.mem_cons_of_mem _ z))
    have e : ¬ a = x := fun z => h (z ▸ List.mem_cons_self)
    simp [dGet, keq, e] at ih ⊢
    exact ih
theorem dPut_fresh {kvs : List (D × D)} {k v : D} (h : dGet kvs k = none) : dPut kvs k v = kvs ++ [(k, v)] := by
  unfold dPut
  have : (kvs.any fun p => keq p.1 k) = false := by
    unfold dGet at h
    rw [Option.map_eq_none_iff, List.find?_eq_none] at h
    rw [List.any_eq_false]
    exact h
  rw [this]
  rfl
theorem nd_take {α : Type} {l : List α} {i : Nat} {x : α} (h : l.Nodup) (hx : l[i]? = some x) : x ∉ l.take i := by
  have htake : l.take (i + 1) = l.take i ++ [x] := by rw [List.take_succ, hx]; rfl
  have h2 := h.sublist (List.take_sublist (i + 1) l)
  rw [htake, List.nodup_append] at h2
  intro hm
  exact h2.2.2 x hm x (by simp) rfl
theorem houses_ok {F T : O} : Ok (m__law_houses [.ref 2, .int 5] [F, T, rosO need, .dic [], .dic [], .dic [], .dic []]) fun r S' => r = .ref 7 ∧ S' = [F, T, rosO need, .dic (houses.map fun h => (.str h, .int 0)), .dic [], .dic [], .dic [], .lst (houses.map D.str)] := by
  refine ok_def rfl ?_
  have hE : env0 5 [.ref 2, .int 5] = [some (.ref 2), some (.int 5), none, none, none] := rfl
  rw [hE]
  unfold b__law_houses
  refine SOk.seq ?_
  rw [sok_asg]
  refine ok_lc ?_
  rw [ok_rng1]
  simp only [ok_aCons, ok_aNil, ok_var0, ok_varS]
  refine ⟨5, rfl, by decide, by decide, rngD 0 5, fun i acc S' => acc = (houses.take i).map D.str ∧ S' = [F, T, rosO need, .dic [], .dic [], .dic [], .dic [], .lst acc], rfl, ⟨rfl, rfl⟩, fun i acc S' _ => srcVals_at _ _, ?_, ?_, ?_⟩
  · rintro i acc S' ⟨-, rfl⟩
    rfl
  · rintro i d acc S' hd ⟨rfl, rfl⟩
    obtain ⟨hi, rfl⟩ := rng_get hd
    have hi5 : i < 5 := by simpa using hi
    have h4 : smallI (i : Int) = true := smallI_of (by omega) (by omega)
    have hln := sInt_len i (by omega)
    have hat := hs_at i hi5
    refine ⟨_, rfl, ?_⟩
    simp only [wipeE, ok_tYes, if_true, ok_e2, ok_c, ok_eA, ok_aCons, ok_aNil, List.set_cons_succ, List.set_cons_zero, ok_var0, ok_varS, Int.zero_add, ok_strI h4, ok_addS]
    refine ⟨leL (by simp; omega), rfl, ltL (by simp; omega), ?_, ?_⟩
    · have htake : houses.take (i + 1) = houses.take i ++ [[104] ++ sInt (i : Int)] := by rw [List.take_succ, hat]; rfl
      rw [htake, List.map_append]
      rfl
    · rfl
  · rintro acc S' ⟨rfl, rfl⟩
    refine ⟨_, rfl, ?_⟩
    refine SOk.seq ?_
    simp only [List.set_cons_succ, List.set_cons_zero]
    refine sok_forL (ds := houses.map D.str) (r := 7) (fun i E S' => (∃ x, E = [some (.ref 2), some (.int 5), some (.ref 7), x, none]) ∧ S' = [F, T, rosO need, .dic ((houses.take i).map fun h => (.str h, .int 0)), .dic [], .dic [], .dic [], .lst (houses.map D.str)]) ?_
    simp only [ok_var0, ok_varS]
    refine ⟨rfl, rfl, ⟨⟨_, rfl⟩, rfl⟩, ?_, ?_, ?_⟩
    · rintro i E S' ⟨-, rfl⟩
      rfl
    · rintro i d E S' hd ⟨⟨x, rfl⟩, rfl⟩
      rw [List.getElem?_map] at hd
      obtain ⟨h, hh, rfl⟩ := Option.map_eq_some_iff.mp hd
      refine ⟨_, rfl, ?_⟩
      simp only [List.set_cons_succ, List.set_cons_zero, sok_expr]
      refine ok_meth (r := 2) (c := 0) (fs := [(0, .int need), (1, .ref 3), (2, .ref 4), (3, .ref 5), (4, .ref 6)]) (mm := m_Roster_add) ?_
      simp only [ok_var0, ok_varS, ok_aCons, ok_aNil]
      have hnew : h ∉ houses.take i := nd_take hs_nd hh
      have hgn := dGet_new (α := Nat) (fun _ => D.non) h (houses.take i) hnew
      have hil : (houses.take i).length ≤ 5 := by rw [List.length_take]; have : houses.length = 5 := rfl; omega
      refine ⟨trivial, rfl, rfl, (add_ok rfl rfl rfl hgn (by rw [List.length_map]; omega)).mono fun r S3 e => ?_⟩
      subst e
      refine ⟨⟨_, rfl⟩, ?_⟩
      rw [dPut_fresh hgn]
      have htake : houses.take (i + 1) = houses.take i ++ [h] := by rw [List.take_succ, hh]; rfl
      rw [htake, List.map_append]
      rfl
    · rintro E S' ⟨⟨x, rfl⟩, rfl⟩
      simp only [sok_ret, ok_var0, ok_varS]
      exact ⟨trivial, rfl⟩
/-! ### the roster's other ways -/
theorem sd_has : ∀ h ∈ houses, (dGet (houses.map fun h => (D.str h, D.int 0)) (.str h)).isSome = true := by decide +kernel
theorem check_ok (R : Ros S need rows gone) {h : Txt} (hm : h ∈ houses) (hg : gone.contains h = false) : Ok (m_Roster_check_house [.ref 2, .str h] S) fun r S' => S' = S := by
  refine ok_def rfl ?_
  have hE : env0 2 [.ref 2, .str h] = [some (.ref 2), some (.str h)] := rfl
  rw [hE]
  unfold b_Roster_check_house
  refine SOk.seq ?_
  simp only [sok_if, ok_tOfE, ok_e2, ok_var0, ok_varS, ok_fld, R.f1, ok_notIn (oInB_dic (k := .str h) R.sd rfl), sd_has h hm, Bool.not_true, D.bl.injEq, exists_eq_left', Bool.false_eq_true, if_false, sok_next]
  simp only [sok_if, ok_tOfE, ok_e2, ok_var0, ok_varS, ok_fld, R.f2, ok_in (oInB_dic (k := .str h) R.rv rfl), get_gone, hg, D.bl.injEq, exists_eq_left', Bool.false_eq_true, if_false, sok_next]
theorem revoke_ok (R : Ros S need rows gone) {h : Txt} (hm : h ∈ houses) (hg : gone.contains h = false) (hl : gone.length ≤ 5) : Ok (m_Roster_revoke [.ref 2, .str h] S) fun r S' => Kp [4] S S' ∧ Ros S' need rows (gone ++ [h]) := by
  refine ok_def rfl ?_
  have hE : env0 2 [.ref 2, .str h] = [some (.ref 2), some (.str h)] := rfl
  rw [hE]
  unfold b_Roster_revoke
  refine SOk.seq ?_
  rw [sok_expr]
  refine ok_meth (r := 2) (c := 0) (fs := [(0, .int need), (1, .ref 3), (2, .ref 4), (3, .ref 5), (4, .ref 6)]) (mm := m_Roster_check_house) ?_
  simp only [ok_var0, ok_varS, ok_aCons, ok_aNil]
  refine ⟨trivial, R.ins, rfl, (check_ok R hm hg).mono fun r S1 e => ?_⟩
  subst e
  simp only [sok_sub, ok_c, ok_fld, ok_var0, ok_varS, R.f2]
  refine ⟨_, stSub_dic R.rv rfl (ltL (by rw [List.length_map]; omega)), Kp.set, ?_⟩
  have hgn : dGet (gone.map fun h => (D.str h, D.bl true)) (.str h) = none := by
    have := get_gone h gone
    rw [hg] at this
    simpa using this
  rw [dPut_fresh hgn]
  refine ⟨Kp.set.at (M := [4]) R.ins (by decide), Kp.set.at (M := [4]) R.sd (by decide), ?_, Kp.set.at (M := [4]) R.sg (by decide)⟩
  rw [at_set R.rv, List.map_append]
  rfl
theorem sign_ok (R : Ros S need rows []) {h t c : Txt} (hm : h ∈ houses) (hw : (wd t c).length ≤ 900) (hl : rows.length < 20) (hn : ∀ r ∈ rows, r.m ≠ h ++ [45] ++ sInt ((rows.length + 1 : Nat) : Int)) :
    Ok (m_Roster_sign [.ref 2, .str h, .str (wd t c)] S) fun r S' => r = .str (h ++ [45] ++ sInt ((rows.length + 1 : Nat) : Int)) ∧ Kp [5] S S' ∧ Ros S' need (rows ++ [⟨h, h ++ [45] ++ sInt ((rows.length + 1 : Nat) : Int), t, c⟩]) [] := by
  refine ok_def rfl ?_
  have hE : env0 4 [.ref 2, .str h, .str (wd t c)] = [some (.ref 2), some (.str h), some (.str (wd t c)), none] := rfl
  rw [hE]
  unfold b_Roster_sign
  refine SOk.seq ?_
  rw [sok_expr]
  refine ok_meth (r := 2) (c := 0) (fs := [(0, .int need), (1, .ref 3), (2, .ref 4), (3, .ref 5), (4, .ref 6)]) (mm := m_Roster_check_house) ?_
  simp only [ok_var0, ok_varS, ok_aCons, ok_aNil]
  refine ⟨trivial, R.ins, rfl, (check_ok R hm rfl).mono fun r S1 e => ?_⟩
  subst e
  have hh2 := hs_len h hm
  have h4 : smallI ((rows.length : Int) + 1) = true := smallI_of (by omega) (by omega)
  have hsl := sInt_len (rows.length + 1) (by omega)
  have ecast : ((rows.length : Int) + 1) = ((rows.length + 1 : Nat) : Int) := by omega
  have hl2 : ∀ (Q : D → Sto → Prop), Ok (oLen [.ref 5] S1) Q = Q (.int (rows.map Row.sig).length) S1 := fun Q => by simp [oLen, R.sg]
  refine SOk.seq ?_
  simp only [sok_asg, ok_join, ok_jsN_cons, ok_jsN_nil, ok_fmt, ok_e2, ok_eA, ok_aCons, ok_aNil, ok_var0, ok_varS, ok_fld, R.f3, hl2, ok_c, ok_addI, List.length_map]
  have hsl2 : (sInt ((rows.length : Int) + 1)).length ≤ 2 := by rw [ecast]; exact hsl
  refine .inl ⟨_, rfl, leL (by omega), _, rfl, leL (by simp; omega), _, rfl, leL (by simp; omega), .inr ⟨_, rfl, h4, _, rfl, leL (by simp; omega), ?_⟩⟩
  refine ⟨_, rfl, ?_⟩
  have em : ([] ++ h ++ [45] ++ sInt ((rows.length : Int) + 1)) = h ++ [45] ++ sInt ((rows.length + 1 : Nat) : Int) := by rw [ecast]; rfl
  rw [em]
  generalize h ++ [45] ++ sInt ((rows.length + 1 : Nat) : Int) = mk at hn
  have hgn : dGet (rows.map Row.sig) (.str mk) = none := by
    rw [get_sig, Option.map_eq_none_iff, List.find?_eq_none]
    intro r hr
    have := hn r hr
    simpa using this
  refine SOk.seq ?_
  simp only [List.set_cons_succ, List.set_cons_zero, sok_sub, ok_eTup, ok_aCons, ok_aNil, ok_fld, ok_var0, ok_varS, R.f3]
  refine ⟨leL (by simp), _, stSub_dic R.sg rfl (ltL (by rw [List.length_map]; omega)), ?_⟩
  simp only [sok_ret, ok_var0, ok_varS]
  refine ⟨trivial, Kp.set, ?_⟩
  rw [dPut_fresh hgn]
  refine ⟨Kp.set.at (M := [5]) R.ins (by decide), Kp.set.at (M := [5]) R.sd (by decide), Kp.set.at (M := [5]) R.rv (by decide), ?_⟩
  rw [at_set R.sg, List.map_append]
  rfl
end K39
end OfK39I

section OfK39J
set_option Elab.async false
set_option linter.all false
set_option maxRecDepth 100000
namespace K39
open PySem PySem.Spec PyProof.Rows L2 DL

variable {S S' : Sto} {need : Int} {rows : List Row} {gone : List Txt} {ci kd : Nat} {es : List Ent} {ns : List Int}
def s5 : SF := (sFor (iRng1D (aCons (eA m__law_next (aCons (eVar 1) (aCons (eVar 0) (aCons (eC (.int 20)) aNil)))) aNil)) (gNm 6) (sSeq (sAsg (e2 oIx (eVar 4) (eA m__law_next (aCons (eVar 1) (aCons (eVar 0) (aCons (eC (.int 5)) aNil))))) (gNm 10)) (sSeq (sAsg (e2 oIx (eA m__law_topics aNil) (eA m__law_next (aCons (eVar 1) (aCons (eVar 0) (aCons (eC (.int 3)) aNil))))) (gNm 12)) (sSeq (sAsg (e2 oIx (eLst (aCons (eC (.str [120])) (aCons (eC (.str [])) aNil))) (eA m__law_next (aCons (eVar 1) (aCons (eVar 0) (aCons (eC (.int 2)) aNil))))) (gNm 13)) (sExpr (eMt .lst mAppend (eVar 5) (aCons (eTup (aCons (eVar 10) (aCons (eMeth [(0, m_Roster_sign)] (eVar 3) (aCons (eVar 10) (aCons (eA m__law_words_of (aCons (eVar 12) (aCons (eVar 13) aNil))) aNil))) (aCons (eVar 12) (aCons (eVar 13) aNil))))) aNil)))))))
def s8 : SF := (sFor (iRng1D (aCons (eA m__law_next (aCons (eVar 1) (aCons (eVar 0) (aCons (eC (.int 4)) aNil)))) aNil)) (gNm 6) (sSeq (sAsg (eMake 1 m_Cache___init__ (aCons (eC (.int 3)) aNil)) (gNm 14)) (sSeq (sAsg (eLst aNil) (gNm 15)) (sSeq (sFor (iAny (e2 oIx (eLst (aCons (eSl (eA m__law_topics aNil) oNoP (oPart (eC (.int 3)))) (aCons (eRev (eA m__law_topics aNil) (oPart (eC (.int 2))) oNoP) aNil))) (eA m__law_next (aCons (eVar 1) (aCons (eVar 0) (aCons (eC (.int 2)) aNil)))))) (gNm 12) (sIf (tOfE (e2 oGt (eA m__law_next (aCons (eVar 1) (aCons (eVar 0) (aCons (eC (.int 4)) aNil)))) (eC (.int 0)))) (sSeq (sAsg (e2 oIx (eLst (aCons (eC (.str [120])) (aCons (eC (.str [])) aNil))) (eA m__law_next (aCons (eVar 1) (aCons (eVar 0) (aCons (eC (.int 2)) aNil))))) (gNm 13)) (sSeq (sAsg (eA m__law_vouchers (aCons (eVar 1) (aCons (eVar 0) (aCons (eVar 4) (aCons (eVar 5) aNil))))) (gNm 16)) (sSeq (sExpr (eMeth [(1, m_Cache_put)] (eVar 14) (aCons (eVar 12) (aCons (eVar 13) (aCons (eVar 16) aNil))))) (sExpr (eMt .lst mAppend (eVar 15) (aCons (eTup (aCons (eVar 12) (aCons (eVar 13) (aCons (eVar 16) aNil)))) aNil)))))) sNext)) (sSeq (sExpr (eMt .lst mAppend (eVar 7) (aCons (eVar 14) aNil))) (sExpr (eMt .lst mAppend (eVar 8) (aCons (eVar 15) aNil))))))))
def s9 : SF := (sAsg (eLc [10] (iAny (eVar 4)) (gNm 10) (tOfE (e2 oEq (eA m__law_next (aCons (eVar 1) (aCons (eVar 0) (aCons (eC (.int 5)) aNil)))) (eC (.int 0)))) (eVar 10)) (gNm 9))
def s10 : SF := (sFor (iAny (eVar 9)) (gNm 10) (sExpr (eMeth [(0, m_Roster_revoke)] (eVar 3) (aCons (eVar 10) aNil))))
def s11 : SF := (sFor (iRng1D (aCons (eC (.int 3)) aNil)) (gNm 11) (sSeq (sIf (tNotF (tTru (eA m__law_looked (aCons (eVar 7) (aCons (eVar 8) (aCons (eVar 3) (aCons (eVar 5) (aCons (eVar 9) (aCons (eVar 2) aNil))))))))) (sRet (eC (.bl false))) sNext) (sFor (iRng1D (aCons (eA oLen (aCons (eVar 7) aNil)) aNil)) (gNm 6) (sIf (tOfE (e2 oEq (eA m__law_next (aCons (eVar 1) (aCons (eVar 0) (aCons (eC (.int 2)) aNil)))) (eC (.int 0)))) (sSeq (sAsg (eA m__law_spoilt (aCons (eVar 1) (aCons (eVar 0) (aCons (e2 oIx (eVar 7) (eVar 6)) (aCons (e2 oIx (eVar 8) (eVar 6)) aNil))))) (gNm 17)) (sSeq (sIf (tOfE (e2 oIsN (eVar 17) (eC .non))) (sRet (eC (.bl false))) sNext) (sSub (eVar 8) (eVar 6) (eVar 17)))) sNext))))
theorem law_eq : b_law = (sSeq (sAsg (eLst (aCons (eC (.int 0)) (aCons (eC (.int 0)) (aCons (eC (.int 1)) aNil)))) (gNm 1)) (sSeq (sAsg (e2 oAdd (eC (.int 1)) (eA m__law_next (aCons (eVar 1) (aCons (eVar 0) (aCons (eC (.int 3)) aNil))))) (gNm 2)) (sSeq (sAsg (eMake 0 m_Roster___init__ (aCons (eVar 2) aNil)) (gNm 3)) (sSeq (sAsg (eA m__law_houses (aCons (eVar 3) (aCons (eC (.int 5)) aNil))) (gNm 4)) (sSeq (sAsg (eLst aNil) (gNm 5)) (sSeq s5 (sSeq (sAsg (eLst aNil) (gNm 7)) (sSeq (sAsg (eLst aNil) (gNm 8)) (sSeq s8 (sSeq s9 (sSeq s10 (sSeq s11 (sRet (eA m__law_looked (aCons (eVar 7) (aCons (eVar 8) (aCons (eVar 3) (aCons (eVar 5) (aCons (eVar 9) (aCons (eVar 2) aNil)))))))))))))))))))) := rfl
theorem sok_forQ {v : Nat} {b : SF} {Q : PQ} {u : AF} {E : DL.Env} (h : Ok (u E S) fun ds S1 => ∃ (n : Nat) (I : Nat → DL.Env → Sto → Prop), ds = [.int n] ∧ (n : Int) < BIG ∧ I 0 E S1 ∧
    (∀ i E S, i < n → I i E S → SOk (b (E.set v (some (.int i))) S) ⟨I (i + 1), Q.rt, Q.nx, I (i + 1)⟩) ∧ ∀ E S, I n E S → Q.nx E S) : SOk (sFor (iRng1D u) (gNm v) b E S) Q := by
  refine sok_for ?_
  rw [ok_rng1]
  refine h.mono fun ds S1 ⟨n, I, h1, h2, h3, h4, h5⟩ => ⟨n, h1, ?_, h2, rngD 0 (n : Int).toNat, I, rfl, h3, fun i E S _ => srcVals_at _ _, fun i d E S hd hI => ?_, fun E S hI => h5 E S ?_⟩
  · show -(4611686018427387904 : Int) ≤ _
    omega
  · obtain ⟨hi, rfl⟩ := rng_get hd
    exact ⟨_, rfl, h4 i E S (by simpa using hi) hI⟩
  · simpa using hI
structure Sg (S : Sto) (ns : List Int) (need : Int) (rows : List Row) (gone : List Txt) : Prop where
  dr : Dr S ns
  ros : Ros S need rows gone
  hs : S[7]? = some (.lst (houses.map D.str))
  sl : S[8]? = some (.lst (rows.map Row.d))
theorem Sg.kp {M : List Nat} (G : Sg S ns need rows gone) (k : Kp M S S') (h : ∀ i ∈ M, 8 < i) : Sg S' ns need rows gone := by
  have hn : ∀ j, j ≤ 8 → j ∉ M := fun j hj hm => by have := h j hm; omega
  exact ⟨G.dr.kp k (hn 0 (by omega)) (hn 1 (by omega)), G.ros.kp k (hn 2 (by omega)) (hn 3 (by omega)) (hn 4 (by omega)) (hn 5 (by omega)), k.at G.hs (hn 7 (by omega)), k.at G.sl (hn 8 (by omega))⟩
/-- what a draw leaves -/
theorem Sg.dw {M : List Nat} (G : Sg S ns need rows gone) (k : Kp M S S') (d : Dr S' ns) (h : ∀ i ∈ M, i = 1 ∨ 8 < i) : Sg S' ns need rows gone := by
  have hn : ∀ j, 2 ≤ j → j ≤ 8 → j ∉ M := fun j hj hj2 hm => by have := h j hm; omega
  exact ⟨d, G.ros.kp k (hn 2 (by omega) (by omega)) (hn 3 (by omega) (by omega)) (hn 4 (by omega) (by omega)) (hn 5 (by omega) (by omega)), k.at G.hs (hn 7 (by omega) (by omega)), k.at G.sl (hn 8 (by omega) (by omega))⟩
theorem Sg.lt (G : Sg S ns need rows gone) : 8 < S.length := lt_of_at G.sl
structure RowsG (rows : List Row) : Prop where
  ea : ∀ (j : Nat) r, rows[j]? = some r → r.m = r.h ++ [45] ++ sInt ((j + 1 : Nat) : Int) ∧ r.h ∈ houses ∧ r.t ∈ TT ∧ r.c ∈ CC
  few : rows.length ≤ 19
theorem sInt_inj : ∀ i ∈ List.range 20, ∀ j ∈ List.range 20, sInt ((i + 1 : Nat) : Int) = sInt ((j + 1 : Nat) : Int) → i = j := by decide +kernel
theorem mk_inj {h h' : Txt} (hh : h ∈ houses) (hh' : h' ∈ houses) {i j : Nat} (hi : i < 20) (hj : j < 20) (e : h ++ [45] ++ sInt ((i + 1 : Nat) : Int) = h' ++ [45] ++ sInt ((j + 1 : Nat) : Int)) : i = j := by
  have a := hs_len h hh
  have b := hs_len h' hh'
  refine sInt_inj i (List.mem_range.mpr hi) j (List.mem_range.mpr hj) ?_
  exact (List.append_inj e (by simp [a, b])).2
theorem RowsG.sz (W : RowsG rows) : RowsSz rows := ⟨fun r hr => by
    obtain ⟨j, hj⟩ := List.getElem?_of_mem hr
    have := hs_len _ (W.ea j r hj).2.1
    omega, fun r hr => by
    obtain ⟨j, hj⟩ := List.getElem?_of_mem hr
    have h2 := hs_len _ (W.ea j r hj).2.1
    have hjl := (List.getElem?_eq_some_iff.mp hj).1
    have hfew := W.few
    have h3 := sInt_len (j + 1) (by omega)
    rw [(W.ea j r hj).1, List.length_append, List.length_append, List.length_singleton]
    omega, W.few⟩
theorem nodup_map {α β : Type} (f : α → β) : ∀ l : List α, (∀ (i j : Nat) a b, l[i]? = some a → l[j]? = some b → f a = f b → i = j) → (l.map f).Nodup
  | [], _ => List.nodup_nil
  | a :: r, h => by
    rw [List.map_cons, List.nodup_cons]
    refine ⟨fun hm => ?_, nodup_map f r fun i j x y hx hy e => ?_⟩
    · obtain ⟨b, hb, e⟩ := List.mem_map.mp hm
      obtain ⟨j, hj⟩ := List.getElem?_of_mem hb
      have := h (j + 1) 0 b a (by simpa using hj) (by simp) e
      omega
    · have := h (i + 1) (j + 1) x y (by simpa using hx) (by simpa using hy) e
      omega
theorem RowsG.ok (W : RowsG rows) : RowsOk rows := ⟨nodup_map _ _ fun i j a b ha hb e => by
    have hfew := W.few
    have h1 := (List.getElem?_eq_some_iff.mp ha).1
    have h2 := (List.getElem?_eq_some_iff.mp hb).1
    have e2 : a.m = b.m := e
    rw [(W.ea i a ha).1, (W.ea j b hb).1] at e2
    exact mk_inj (W.ea i a ha).2.1 (W.ea j b hb).2.1 (by omega) (by omega) e2, fun r hr => by
    obtain ⟨j, hj⟩ := List.getElem?_of_mem hr
    exact (W.ea j r hj).2.2⟩
theorem RowsG.nil : RowsG [] := ⟨fun j r h => (by simp at h), Nat.zero_le _⟩
theorem RowsG.snoc (W : RowsG rows) (hl : rows.length < 19) {h t c : Txt} (hh : h ∈ houses) (ht : t ∈ TT) (hc : c ∈ CC) : RowsG (rows ++ [⟨h, h ++ [45] ++ sInt ((rows.length + 1 : Nat) : Int), t, c⟩]) := ⟨fun j r hj => by
    by_cases hjl : j < rows.length
    · rw [List.getElem?_append_left hjl] at hj
      exact W.ea j r hj
    · rw [List.getElem?_append_right (by omega)] at hj
      have hj0 : j - rows.length = 0 := by
        have := (List.getElem?_eq_some_iff.mp hj).1
        simp at this
        omega
      rw [hj0] at hj
      have e : j = rows.length := by omega
      subst e
      cases hj
      exact ⟨rfl, hh, ht, hc⟩, by simp; omega⟩
theorem hs_atI {i : Nat} (h : i < 5) : ∃ x, x ∈ houses ∧ atI (houses.map D.str) (i : Int) = some (.str x) := by
  have e : houses[i]? = some (houses[i]'h) := List.getElem?_eq_getElem h
  exact ⟨houses[i]'h, List.getElem_mem h, atI_nat (by rw [List.getElem?_map, e]; rfl)⟩
theorem wd_len : ∀ t ∈ TT, ∀ c ∈ CC, (wd t c).length ≤ 900 := by decide +kernel
theorem CC_at {i : Nat} (h : i < 2) : ∃ c, c ∈ CC ∧ atI [D.str [120], .str []] (i : Int) = some (.str c) := by
  have hl : i < ([[120], []] : List Txt).length := h
  have hm : ∀ c ∈ ([[120], []] : List Txt), c ∈ CC := by decide
  exact ⟨_, hm _ (List.getElem_mem hl), atI_nat (xs := ([[120], []] : List Txt).map D.str) (by rw [List.getElem?_map, List.getElem?_eq_getElem hl]; rfl)⟩
theorem sign_loop {P : PQ} (G : Sg S ns need [] []) (hP : ∀ S' rows x6 x10 x12 x13, Sg S' ns need rows [] → RowsG rows → P.nx [some (.ref 0), some (.ref 1), some (.int need), some (.ref 2), some (.ref 7), some (.ref 8), x6, none, none, none, x10, none, x12, x13, none, none, none, none] S') :
    SOk (s5 [some (.ref 0), some (.ref 1), some (.int need), some (.ref 2), some (.ref 7), some (.ref 8), none, none, none, none, none, none, none, none, none, none, none, none] S) P := by
  unfold s5
  refine sok_forQ ?_
  simp only [ok_eA, ok_aCons, ok_aNil, ok_var0, ok_varS, ok_c]
  refine (draw G.dr (m := 20) (by decide) (by decide)).mono fun r S1 ⟨q, e, hq, d1, k1⟩ => ?_
  subst e
  refine ⟨q, fun i E S' => (∃ x6 x10 x12 x13, E = [some (.ref 0), some (.ref 1), some (.int need), some (.ref 2), some (.ref 7), some (.ref 8), x6, none, none, none, x10, none, x12, x13, none, none, none, none]) ∧ ∃ rows, Sg S' ns need rows [] ∧ RowsG rows ∧ rows.length = i, rfl, lt_BIG (leL (by omega)), ⟨⟨_, _, _, _, rfl⟩, [], G.dw k1 d1 (by simp), RowsG.nil, rfl⟩, ?_, ?_⟩
  · rintro i E S2 hi ⟨⟨x6, x10, x12, x13, rfl⟩, rows, G2, W, hlen⟩
    have h1 := G2.lt
    refine SOk.seq ?_
    simp only [List.set_cons_succ, List.set_cons_zero, sok_asg, ok_e2, ok_eA, ok_aCons, ok_aNil, ok_var0, ok_varS, ok_c]
    refine (draw G2.dr (m := 5) (by decide) (by decide)).mono fun r S3 ⟨q1, e, hq1, d3, k3⟩ => ?_
    subst e
    have G3 := G2.dw k3 d3 (by simp)
    have l3 := G3.lt
    obtain ⟨h, hh, hat⟩ := hs_atI hq1
    rw [ok_ixL (.inl G3.hs) hat]
    refine ⟨_, rfl, ?_⟩
    refine SOk.seq ?_
    simp only [gNm, List.set_cons_succ, List.set_cons_zero, sok_asg, ok_e2, ok_eA, ok_aNil]
    refine topics4.mono fun r S4 ⟨e1, e2⟩ => ?_
    subst e1 e2
    simp only [ok_aCons, ok_aNil, ok_var0, ok_varS, ok_c]
    have G4 : Sg (S3 ++ [tops]) ns need rows [] := G3.kp (M := []) Kp.push (by simp)
    refine (draw G4.dr (m := 3) (by decide) (by decide)).mono fun r S5 ⟨q2, e, hq2, d5, k5⟩ => ?_
    subst e
    have G5 := G4.dw k5 d5 (by simp)
    obtain ⟨t, ht, hat⟩ := TT_at (show q2 < 4 by omega)
    rw [ok_ixL (.inl (k5.at (at_push (S := S3) (o := tops)) (by simp; omega))) hat]
    refine ⟨_, rfl, ?_⟩
    refine SOk.seq ?_
    simp only [gNm, List.set_cons_succ, List.set_cons_zero, sok_asg, ok_e2, ok_eLst, ok_eA, ok_aCons, ok_aNil, ok_var0, ok_varS, ok_c]
    refine ⟨leL (by simp), ?_⟩
    have G6 : Sg (S5 ++ [.lst [.str [120], .str []]]) ns need rows [] := G5.kp (M := []) Kp.push (by simp)
    have l5 := G5.lt
    refine (draw G6.dr (m := 2) (by decide) (by decide)).mono fun r S7 ⟨q3, e, hq3, d7, k7⟩ => ?_
    subst e
    have G7 := G6.dw k7 d7 (by simp)
    obtain ⟨c, hc, hat⟩ := CC_at hq3
    rw [ok_ixL (.inl (k7.at (at_push (S := S5) (o := .lst [.str [120], .str []])) (by simp; omega))) hat]
    refine ⟨_, rfl, ?_⟩
    simp only [gNm, List.set_cons_succ, List.set_cons_zero, sok_expr, ok_eMt, ok_var0, ok_varS, hasTy_lst G7.sl, true_and, ok_aCons, ok_aNil, ok_eTup]
    refine ok_meth (r := 2) (c := 0) (fs := [(0, .int need), (1, .ref 3), (2, .ref 4), (3, .ref 5), (4, .ref 6)]) (mm := m_Roster_sign) ?_
    simp only [ok_var0, ok_varS, ok_aCons, ok_aNil, ok_eA]
    refine ⟨trivial, G7.ros.ins, rfl, (lwords_ok (TT_len t ht) (CC_len c hc)).mono fun r S8 ⟨e1, e2⟩ => ?_⟩
    subst e1 e2
    refine (sign_ok (t := t) (c := c) G7.ros hh (wd_len t ht c hc) (by omega) ?_).mono fun r S9 ⟨e1, k9, R9⟩ => ?_
    · intro r hr e
      obtain ⟨j, hj⟩ := List.getElem?_of_mem hr
      have hjl := (List.getElem?_eq_some_iff.mp hj).1
      rw [(W.ea j r hj).1] at e
      have := mk_inj (W.ea j r hj).2.1 hh (by omega) (by omega) e
      omega
    · subst e1
      have hs9 := k9.at G7.hs (by decide)
      have sl9 := k9.at G7.sl (by decide)
      have d9 := G7.dr.kp k9 (by decide) (by decide)
      refine ⟨leL (by simp), ?_⟩
      rw [ok_append sl9 (ltL (by rw [List.length_map]; omega))]
      refine ⟨⟨_, _, _, _, rfl⟩, rows ++ [⟨h, h ++ [45] ++ sInt ((rows.length + 1 : Nat) : Int), t, c⟩], ?_, W.snoc (by omega) hh ht hc, by simp; omega⟩
      have ks : Kp [8] S9 (S9.set 8 (.lst (rows.map Row.d ++ [Row.d ⟨h, h ++ [45] ++ sInt ((rows.length + 1 : Nat) : Int), t, c⟩]))) := Kp.set
      refine ⟨d9.kp ks (by decide) (by decide), R9.kp ks (by decide) (by decide) (by decide) (by decide), ks.at hs9 (by decide), ?_⟩
      rw [List.map_append]
      exact at_set sl9
  · rintro E S2 ⟨⟨x6, x10, x12, x13, rfl⟩, rows, G2, W, hlen⟩
    exact hP S2 rows x6 x10 x12 x13 G2 W
end K39
end OfK39J

section OfK39M
set_option Elab.async false
set_option linter.all false
set_option maxRecDepth 100000
namespace K39
open PySem PySem.Spec PyProof.Rows L2 DL

variable {S S' : Sto} {need : Int} {rows : List Row} {gone : List Txt} {ci kd ca kl : Nat} {es : List Ent} {ns : List Int} {cs : List CK}
structure Bd (S : Sto) (ns : List Int) (need : Int) (rows : List Row) (gone : List Txt) (ca kl : Nat) (cs : List CK) : Prop where
  sg : Sg S ns need rows gone
  cas : S[ca]? = some (.lst (cs.map fun k => .ref k.ci))
  kls : S[kl]? = some (.lst (cs.map fun k => .ref k.en))
  cac : ∀ k ∈ cs, Cac S k.ci k.kd k.es
  ent : ∀ k ∈ cs, S[k.en]? = some (.lst (k.es.map Ent.row))
  ok : ∀ k ∈ cs, EsOk k.es
  ne : ∀ k ∈ cs, 8 < k.ci ∧ 8 < k.kd ∧ 8 < k.en ∧ k.en ≠ ca ∧ k.en ≠ kl
  nd : (cs.map (·.kd)).Nodup
  hca : 8 < ca
  hkl : ca < kl
theorem nm1 {M : List Nat} {n : Nat} {S : Sto} (hM : ∀ j ∈ M, j = 1 ∨ S.length ≤ j) (h8 : 8 < n) (hn : n < S.length) : n ∉ M := fun hm => by
  have := hM n hm
  omega
theorem Bd.kp {M : List Nat} (B : Bd S ns need rows gone ca kl cs) (k : Kp M S S') (d : Dr S' ns) (hM : ∀ j ∈ M, j = 1 ∨ S.length ≤ j) : Bd S' ns need rows gone ca kl cs :=
  ⟨B.sg.dw k d fun j hj => by have := hM j hj; have := B.sg.lt; omega, k.at B.cas (nm1 hM B.hca (lt_of_at B.cas)), k.at B.kls (nm1 hM (by have := B.hca; have := B.hkl; omega) (lt_of_at B.kls)),
    fun x hx => (B.cac x hx).kp k (nm1 hM (B.ne x hx).1 (lt_of_at (B.cac x hx).ins)) (nm1 hM (B.ne x hx).2.1 (lt_of_at (B.cac x hx).kd)),
    fun x hx => k.at (B.ent x hx) (nm1 hM (B.ne x hx).2.2.1 (lt_of_at (B.ent x hx))), B.ok, B.ne, B.nd, B.hca, B.hkl⟩
theorem set2 {S : Sto} {a b : Nat} {x y : O} : Kp [a, b] S ((S.set a x).set b y) := by
  have h1 : Kp [a] S (S.set a x) := Kp.set
  have h2 : Kp [b] (S.set a x) ((S.set a x).set b y) := Kp.set
  exact (h1.mono (by simp)).trans (h2.mono (by simp))
theorem Bd.snoc (B : Bd S ns need rows gone ca kl cs) {en : Nat} (C : Cac S ci kd es) (he : S[en]? = some (.lst (es.map Ent.row))) (W : EsOk es) (h1 : 8 < ci) (h2 : 8 < kd) (h3 : 8 < en) (h4 : en ≠ ca) (h5 : en ≠ kl) (h6 : kd ∉ cs.map (·.kd)) :
    Bd ((S.set ca (.lst ((cs.map fun k => .ref k.ci) ++ [.ref ci]))).set kl (.lst ((cs.map fun k => .ref k.en) ++ [.ref en]))) ns need rows gone ca kl (cs ++ [⟨ci, kd, en, es⟩]) := by
  have k : Kp [ca, kl] S ((S.set ca (.lst ((cs.map fun k => .ref k.ci) ++ [.ref ci]))).set kl (.lst ((cs.map fun k => .ref k.en) ++ [.ref en]))) := set2
  have hcl : ca ≠ kl := by have := B.hkl; omega
  have hca := B.hca
  have hkl := B.hkl
  have hins : ∀ {n kd' : Nat}, S[n]? = some (.ins 1 [(5, .int 3), (6, .ref kd')]) → n ∉ [ca, kl] := fun h hm => by
    rcases List.mem_cons.mp hm with e | hm
    · rw [e, B.cas] at h; cases h
    · rw [List.mem_singleton.mp hm, B.kls] at h; cases h
  have hdic : ∀ {n : Nat} {es : List Ent}, S[n]? = some (.dic (es.map Ent.kv)) → n ∉ [ca, kl] := fun h hm => by
    rcases List.mem_cons.mp hm with e | hm
    · rw [e, B.cas] at h; cases h
    · rw [List.mem_singleton.mp hm, B.kls] at h; cases h
  have all : ∀ {p : CK → Prop}, (∀ k ∈ cs, p k) → p ⟨ci, kd, en, es⟩ → ∀ k ∈ cs ++ [⟨ci, kd, en, es⟩], p k := fun ha hb k hk => by
    rcases List.mem_append.mp hk with h | h
    · exact ha k h
    · rw [List.mem_singleton.mp h]; exact hb
  refine ⟨B.sg.kp k (by simp; omega), ?_, ?_, all (fun x hx => (B.cac x hx).kp k (hins (B.cac x hx).ins) (hdic (B.cac x hx).kd)) (C.kp k (hins C.ins) (hdic C.kd)),
    all (fun x hx => k.at (B.ent x hx) (by have := B.ne x hx; simp; omega)) (k.at he (by simp; omega)), all B.ok W, all B.ne ⟨h1, h2, h3, h4, h5⟩, ?_, hca, hkl⟩
  · rw [List.getElem?_set_ne (Ne.symm hcl), at_set B.cas, List.map_append]; rfl
  · have : (S.set ca (.lst ((cs.map fun k => .ref k.ci) ++ [.ref ci])))[kl]? = some (.lst (cs.map fun k => .ref k.en)) := by
      rw [List.getElem?_set_ne hcl]; exact B.kls
    rw [at_set this, List.map_append]; rfl
  · rw [List.map_append, List.nodup_append]
    refine ⟨B.nd, by simp, fun a ha b hb e => ?_⟩
    have : b = kd := by simpa using hb
    exact h6 (by rw [← this, ← e]; exact ha)
theorem Bd.upd (B : Bd S ns need rows gone ca kl cs) {i n : Nat} {k : CK} (hk : cs[i]? = some k) (kp : Kp [1, k.kd] S S') (d : Dr S' ns) (C : Cac S' k.ci k.kd es) (he : S'[n]? = some (.lst (es.map Ent.row))) (W : EsOk es) (hn : S.length ≤ n) :
    Bd (S'.set kl (.lst ((cs.map fun k => .ref k.en).set i (.ref n)))) ns need rows gone ca kl (cs.set i ⟨k.ci, k.kd, n, es⟩) := by
  have hm := List.mem_of_getElem? hk
  have hcal := lt_of_at B.cas
  have hkll := lt_of_at B.kls
  have hca := B.hca
  have hkl := B.hkl
  have h8 := B.sg.lt
  have nek := B.ne k hm
  have hkdl : ∀ {x}, S[k.kd]? = some (O.lst x) → False := fun h => by rw [(B.cac k hm).kd] at h; cases h
  have hcakd : ca ≠ k.kd := fun e => hkdl (e ▸ B.cas)
  have hklkd : kl ≠ k.kd := fun e => hkdl (e ▸ B.kls)
  have k2 : Kp [1, k.kd, kl] S (S'.set kl (.lst ((cs.map fun k => .ref k.en).set i (.ref n)))) := (kp.mono (by simp)).trans ((Kp.set).mono (by simp))
  have k3 : Kp [kl] S' (S'.set kl (.lst ((cs.map fun k => .ref k.en).set i (.ref n)))) := Kp.set
  have hkl' := kp.at B.kls (by simp; omega)
  have all : ∀ {p : CK → Prop}, (∀ (j : Nat) x, cs[j]? = some x → x.kd ≠ k.kd → p x) → p ⟨k.ci, k.kd, n, es⟩ → ∀ x ∈ cs.set i ⟨k.ci, k.kd, n, es⟩, p x := fun ha hb x hx => by
    obtain ⟨j, hj⟩ := List.getElem?_of_mem hx
    by_cases e : i = j
    · subst e
      rw [List.getElem?_set_self (List.getElem?_eq_some_iff.mp hk).1] at hj
      cases hj
      exact hb
    · rw [List.getElem?_set_ne e] at hj
      refine ha j x hj fun e2 => e ?_
      have hlen := (List.getElem?_eq_some_iff.mp hk).1
      have hq : (cs.map (·.kd))[i]? = (cs.map (·.kd))[j]? := by
        rw [List.getElem?_map, List.getElem?_map, hk, hj]
        exact congrArg some e2.symm
      exact (List.getElem?_inj (by rw [List.length_map]; exact hlen) B.nd).mp hq
  have hckl : ∀ {kd' ci' : Nat}, S[ci']? = some (.ins 1 [(5, .int 3), (6, .ref kd')]) → ci' ∉ [1, k.kd, kl] := fun h hm => by
    have h1 : ∀ {x}, S[1]? = some (O.ins 1 x) → False := fun h => by obtain ⟨a, b, c, hh, _⟩ := B.sg.dr.st; rw [hh] at h; cases h
    simp at hm
    rcases hm with e | e | e
    · rw [e] at h; exact h1 h
    · rw [e, (B.cac k ‹_›).kd] at h; cases h
    · rw [e, B.kls] at h; cases h
  refine ⟨⟨d.kp k3 (by simp; omega) (by simp; omega), B.sg.ros.kp k2 (by simp; omega) (by simp; omega) (by simp; omega) (by simp; omega), k2.at B.sg.hs (by simp; omega), k2.at B.sg.sl (by simp; omega)⟩, ?_, ?_, all (fun j x hx hne => ?_) ?_, all (fun j x hx hne => ?_) ?_, all (fun j x hx hne => B.ok x (List.mem_of_getElem? hx)) W, all (fun j x hx hne => B.ne x (List.mem_of_getElem? hx)) ⟨nek.1, nek.2.1, show 8 < n by omega, show n ≠ ca by omega, show n ≠ kl by omega⟩, ?_, hca, hkl⟩
  · rw [k2.at B.cas (by simp; omega), List.map_set]
    congr 2
    refine List.ext_getElem? fun j => ?_
    by_cases e : i = j
    · subst e
      have hlen := (List.getElem?_eq_some_iff.mp hk).1
      rw [List.getElem?_set_self (by rw [List.length_map]; exact hlen), List.getElem?_map, hk]
      rfl
    · rw [List.getElem?_set_ne e]
  · rw [at_set hkl', List.map_set]
  · have hx' := List.mem_of_getElem? hx
    have hkdx := (B.cac x hx').kd
    refine (B.cac x hx').kp k2 (hckl (B.cac x hx').ins) ?_
    have := (B.ne x hx').2.1
    have h3 : x.kd ≠ kl := fun e => by rw [e, B.kls] at hkdx; cases hkdx
    simp
    omega
  · refine C.kp k3 ?_ ?_
    · have := hckl (B.cac k hm).ins
      simp at this ⊢
      omega
    · simp
      omega
  · have hx' := List.mem_of_getElem? hx
    have := B.ne x hx'
    have h3 : x.en ≠ k.kd := fun e => hkdl (e ▸ B.ent x hx')
    exact k2.at (B.ent x hx') (by simp; omega)
  · exact k3.at he (by simp; omega)
  · rw [List.map_set]
    have : (cs.map (·.kd)).set i k.kd = cs.map (·.kd) := by
      refine List.ext_getElem? fun j => ?_
      by_cases e : i = j
      · subst e
        have hlen := (List.getElem?_eq_some_iff.mp hk).1
        rw [List.getElem?_set_self (by rw [List.length_map]; exact hlen), List.getElem?_map, hk]
        rfl
      · rw [List.getElem?_set_ne e]
    rw [this]
    exact B.nd
theorem aft_new {t c : Txt} {vs : List (Txt × Txt)} (hn : ∀ e ∈ es, e.t ≠ t) (hl : es.length ≤ 2) : (aft es t c vs).drop ((aft es t c vs).length - 3) = es ++ [⟨t, c, vs⟩] := by
  have e : aft es t c vs = es ++ [⟨t, c, vs⟩] := by
    unfold aft
    rw [List.filter_eq_self.mpr]
    intro a ha
    have := hn a ha
    simpa using this
  rw [e]
  have : (es ++ [(⟨t, c, vs⟩ : Ent)]).length - 3 = 0 := by simp; omega
  rw [this]
  rfl
def t3a : List Txt := [[116], [109, 97, 100, 101, 10], [116, 111, 112, 105, 99, 32, 49, 50]]
def t3b : List Txt := [[116, 111, 112, 105, 99, 32, 49, 50], [109, 97, 100, 101, 10], [116]]
theorem cut3 : cutL [D.str [116], .str [109, 97, 100, 101, 10], .str [116, 111, 112, 105, 99, 32, 49, 50], .str []] none (some 3) = t3a.map D.str := rfl
theorem pick3 : pickL [D.str [116], .str [109, 97, 100, 101, 10], .str [116, 111, 112, 105, 99, 32, 49, 50], .str []] (some 2) none (some (-1)) = t3b.map D.str := by rfl
theorem ok_revL {n : Nat} {xs ys : List D} {lo hi : Option Int} {QD : D → Sto → Prop} (h : S[n]? = some (.lst xs)) (hl : xs.length < LINE) (e : pickL xs lo hi (some (-1)) = ys) (hl2 : ys.length ≤ LINE) : Ok (oRev (.ref n) lo hi S) QD = QD (.ref S.length) (S ++ [.lst ys]) := by
  subst e
  simp [oRev, h, lstO, hl, hl2]
theorem sok_forLQ {t : TgF} {b : SF} {Q : PQ} {f : EF} {E : DL.Env} (h : Ok (f E S) fun d S1 => ∃ (ds : List D) (r : Nat) (I : Nat → DL.Env → Sto → Prop), d = .ref r ∧ S1[r]? = some (.lst ds) ∧ I 0 E S1 ∧ (∀ i E S, I i E S → S[r]? = some (.lst ds)) ∧
    (∀ i d E S, ds[i]? = some d → I i E S → ∃ E1, t d E = some E1 ∧ SOk (b E1 S) ⟨I (i + 1), Q.rt, Q.nx, I (i + 1)⟩) ∧ ∀ E S, I ds.length E S → Q.nx E S) : SOk (sFor (iAny f) t b E S) Q := by
  refine sok_for ?_
  rw [ok_iAny]
  refine h.mono fun d S1 ⟨ds, r, I, h1, h2, h3, h6, h4, h5⟩ => ?_
  subst h1
  rw [anyQ_lst h2]
  exact ⟨ds, I, rfl, h3, fun i E S hI => srcList_at (.inl (h6 i E S hI)) _, h4, h5⟩
end K39
end OfK39M

section OfK39N
set_option Elab.async false
set_option linter.all false
set_option maxRecDepth 100000
namespace K39
open PySem PySem.Spec PyProof.Rows L2 DL

variable {S S' : Sto} {need : Int} {rows : List Row} {gone : List Txt} {ci kd ca kl : Nat} {es : List Ent} {ns : List Int} {cs : List CK}
def s8i : SF := (sFor (iAny (e2 oIx (eLst (aCons (eSl (eA m__law_topics aNil) oNoP (oPart (eC (.int 3)))) (aCons (eRev (eA m__law_topics aNil) (oPart (eC (.int 2))) oNoP) aNil))) (eA m__law_next (aCons (eVar 1) (aCons (eVar 0) (aCons (eC (.int 2)) aNil)))))) (gNm 12) (sIf (tOfE (e2 oGt (eA m__law_next (aCons (eVar 1) (aCons (eVar 0) (aCons (eC (.int 4)) aNil)))) (eC (.int 0)))) (sSeq (sAsg (e2 oIx (eLst (aCons (eC (.str [120])) (aCons (eC (.str [])) aNil))) (eA m__law_next (aCons (eVar 1) (aCons (eVar 0) (aCons (eC (.int 2)) aNil))))) (gNm 13)) (sSeq (sAsg (eA m__law_vouchers (aCons (eVar 1) (aCons (eVar 0) (aCons (eVar 4) (aCons (eVar 5) aNil))))) (gNm 16)) (sSeq (sExpr (eMeth [(1, m_Cache_put)] (eVar 14) (aCons (eVar 12) (aCons (eVar 13) (aCons (eVar 16) aNil))))) (sExpr (eMt .lst mAppend (eVar 15) (aCons (eTup (aCons (eVar 12) (aCons (eVar 13) (aCons (eVar 16) aNil)))) aNil)))))) sNext))
theorem s8_eq : s8 = (sFor (iRng1D (aCons (eA m__law_next (aCons (eVar 1) (aCons (eVar 0) (aCons (eC (.int 4)) aNil)))) aNil)) (gNm 6) (sSeq (sAsg (eMake 1 m_Cache___init__ (aCons (eC (.int 3)) aNil)) (gNm 14)) (sSeq (sAsg (eLst aNil) (gNm 15)) (sSeq s8i (sSeq (sExpr (eMt .lst mAppend (eVar 7) (aCons (eVar 14) aNil))) (sExpr (eMt .lst mAppend (eVar 8) (aCons (eVar 15) aNil)))))))) := rfl
structure Inn (S0 S : Sto) (ns : List Int) (need : Int) (rows : List Row) (ci kd en : Nat) (es : List Ent) : Prop where
  sg : Sg S ns need rows []
  cac : Cac S ci kd es
  ent : S[en]? = some (.lst (es.map Ent.row))
  ok : EsOk es
  kp : Kp [1, kd, en] S0 S
theorem ts_one {ts : List Txt} (h : ts = t3a ∨ ts = t3b) : ts.Nodup ∧ (∀ t ∈ ts, t ∈ TT) ∧ ts.length = 3 := by
  rcases h with rfl | rfl
  · exact ⟨by decide, by decide, rfl⟩
  · exact ⟨by decide, by decide, rfl⟩
theorem inner_ok {P : PQ} {en i : Nat} {x10 x12 x13 x16 : Option D} (G : Sg S ns need rows []) (W : RowsG rows) (C : Cac S ci kd []) (he : S[en]? = some (.lst [])) (h1 : 8 < ci) (h2 : 8 < kd) (h3 : 8 < en)
    (hP : ∀ S' es x12 x13 x16, Inn S S' ns need rows ci kd en es → P.nx [some (.ref 0), some (.ref 1), some (.int need), some (.ref 2), some (.ref 7), some (.ref 8), some (.int i), some (.ref ca), some (.ref kl), none, x10, none, x12, x13, some (.ref ci), some (.ref en), x16, none] S') :
    SOk (s8i [some (.ref 0), some (.ref 1), some (.int need), some (.ref 2), some (.ref 7), some (.ref 8), some (.int i), some (.ref ca), some (.ref kl), none, x10, none, x12, x13, some (.ref ci), some (.ref en), x16, none] S) P := by
  have hks : kd < S.length := lt_of_at C.kd
  have hes : en < S.length := lt_of_at he
  have hke : kd ≠ en := fun e => by have := C.kd; rw [e, he] at this; cases this
  have hce : ci ≠ en := fun e => by have := C.ins; rw [e, he] at this; cases this
  have hck : ci ≠ kd := fun e => by have := C.ins; rw [e, C.kd] at this; cases this
  have h8 := G.lt
  unfold s8i
  refine sok_forLQ ?_
  simp only [ok_e2, ok_eLst, ok_eA, ok_aCons, ok_aNil, ok_eSl, ok_eRev, ok_noP, ok_part, ok_c]
  refine topics4.mono fun r S1 ⟨e1, e2⟩ => ?_
  subst e1 e2
  refine ⟨_, rfl, ?_⟩
  rw [ok_slL at_push, cut3]
  generalize hS2 : S ++ [O.lst [.str [116], .str [109, 97, 100, 101, 10], .str [116, 111, 112, 105, 99, 32, 49, 50], .str []]] = S1
  have k1 : Kp [] S S1 := hS2 ▸ Kp.push
  refine topics4.mono fun r S3 ⟨e1, e2⟩ => ?_
  subst e1 e2
  refine ⟨_, rfl, ?_⟩
  rw [ok_revL at_push (ltL (by simp)) pick3 (leL (by decide))]
  have hA : (S1 ++ [O.lst (t3a.map D.str)])[S1.length]? = some (.lst (t3a.map D.str)) := at_push
  generalize hS3 : S1 ++ [O.lst (t3a.map D.str)] = S3 at hA
  have k3 : Kp [] S1 S3 := hS3 ▸ Kp.push
  generalize hS4 : S3 ++ [O.lst [.str [116], .str [109, 97, 100, 101, 10], .str [116, 111, 112, 105, 99, 32, 49, 50], .str []]] = S4
  have k4 : Kp [] S3 S4 := hS4 ▸ Kp.push
  have hB : (S4 ++ [O.lst (t3b.map D.str)])[S4.length]? = some (.lst (t3b.map D.str)) := at_push
  generalize hS5 : S4 ++ [O.lst (t3b.map D.str)] = S5 at hB
  have k5 : Kp [] S4 S5 := hS5 ▸ Kp.push
  have hA5 := k5.at (k4.at hA (by simp)) (by simp)
  refine ⟨leL (by simp), ?_⟩
  have hC : (S5 ++ [O.lst [.ref S1.length, .ref S4.length]])[S5.length]? = some (.lst [.ref S1.length, .ref S4.length]) := at_push
  have hA6 := (Kp.push (o := O.lst [.ref S1.length, .ref S4.length])).at (M := []) hA5 (by simp)
  have hB6 := (Kp.push (o := O.lst [.ref S1.length, .ref S4.length])).at (M := []) hB (by simp)
  have k6 : Kp [] S5 (S5 ++ [O.lst [.ref S1.length, .ref S4.length]]) := Kp.push
  generalize S5 ++ [O.lst [.ref S1.length, .ref S4.length]] = S6 at hC hA6 hB6 k6
  have kk : Kp [] S S6 := (((k1.trans k3).trans k4).trans k5).trans k6
  have G6 := G.kp kk (by simp)
  simp only [ok_var0, ok_varS]
  refine (draw G6.dr (m := 2) (by decide) (by decide)).mono fun r S7 ⟨q, e, hq, d7, k7⟩ => ?_
  subst e
  have l1 := k1.1
  have l3 := k3.1
  have l4 := k4.1
  have l5 := k5.1
  have G7 := G6.dw k7 d7 (by simp)
  have hC7 := k7.at hC (by simp; omega)
  obtain ⟨ts, sr, hts, hat, hsr, hsl⟩ : ∃ ts sr, (ts = t3a ∨ ts = t3b) ∧ atI [D.ref S1.length, .ref S4.length] (q : Int) = some (.ref sr) ∧ S7[sr]? = some (.lst (ts.map D.str)) ∧ S.length ≤ sr := by
    have : q = 0 ∨ q = 1 := by omega
    rcases this with rfl | rfl
    · exact ⟨t3a, S1.length, .inl rfl, rfl, k7.at hA6 (by simp; omega), by omega⟩
    · exact ⟨t3b, S4.length, .inr rfl, rfl, k7.at hB6 (by simp; omega), by omega⟩
  rw [ok_ixL (.inl hC7) hat]
  obtain ⟨hnd, hTT, hl3⟩ := ts_one hts
  have kk7 : Kp [1] S S7 := (kk.nil).trans k7
  refine ⟨ts.map D.str, sr, fun j E S' => (∃ x12 x13 x16, E = [some (.ref 0), some (.ref 1), some (.int need), some (.ref 2), some (.ref 7), some (.ref 8), some (.int i), some (.ref ca), some (.ref kl), none, x10, none, x12, x13, some (.ref ci), some (.ref en), x16, none]) ∧ ∃ es, Inn S7 S' ns need rows ci kd en es ∧ es.length ≤ j ∧ ∀ e ∈ es, e.t ∈ ts.take j, rfl, hsr, ⟨⟨_, _, _, rfl⟩, [], ⟨G7, C.kp kk7 (by simp; omega) (by simp; omega), kk7.at he (by simp; omega), ⟨fun e h => (List.not_mem_nil h).elim, List.nodup_nil, fun e h => (List.not_mem_nil h).elim, Nat.zero_le _⟩, .refl⟩, by simp, by simp⟩, ?_, ?_, ?_⟩
  · rintro j E S' ⟨-, es, I, -, -⟩
    exact I.kp.at hsr (by simp; omega)
  · rintro j d E S8 hd ⟨⟨x12, x13, x16, rfl⟩, es, I, hl, hin⟩
    rw [List.getElem?_map] at hd
    obtain ⟨t, ht, rfl⟩ := Option.map_eq_some_iff.mp hd
    have htT := hTT t (List.mem_of_getElem? ht)
    have hj3 : j < 3 := by have := (List.getElem?_eq_some_iff.mp ht).1; omega
    have hnt := nd_take hnd ht
    have htake : ts.take (j + 1) = ts.take j ++ [t] := by rw [List.take_succ, ht]; rfl
    refine ⟨_, rfl, ?_⟩
    simp only [List.set_cons_succ, List.set_cons_zero]
    rw [sok_if]
    simp only [ok_tOfE, ok_e2, ok_eA, ok_aCons, ok_aNil, ok_var0, ok_varS, ok_c]
    refine (draw I.sg.dr (m := 4) (by decide) (by decide)).mono fun r S9 ⟨q1, e, hq1, d9, k9⟩ => ?_
    subst e
    have G9 := I.sg.dw k9 d9 (by simp)
    have C9 := I.cac.kp k9 (by simp; omega) (by simp; omega)
    have he9 := k9.at I.ent (by simp; omega)
    have kk9 := I.kp.trans (k9.mono (by simp))
    simp only [ok_gt, D.bl.injEq, exists_eq_left', decide_eq_true_eq]
    by_cases hq0 : (0 : Int) < q1
    · rw [if_pos hq0]
      refine SOk.seq ?_
      simp only [sok_asg, ok_e2, ok_eLst, ok_eA, ok_aCons, ok_aNil, ok_var0, ok_varS, ok_c]
      refine ⟨leL (by simp), ?_⟩
      have G10 : Sg (S9 ++ [.lst [.str [120], .str []]]) ns need rows [] := G9.kp (M := []) Kp.push (by simp)
      have l9 := G9.lt
      refine (draw G10.dr (m := 2) (by decide) (by decide)).mono fun r S11 ⟨q3, e, hq3, d11, k11⟩ => ?_
      subst e
      have G11 := G10.dw k11 d11 (by simp)
      have kp11 : Kp [1] S9 S11 := (Kp.push.nil).trans k11
      obtain ⟨c, hc, hat⟩ := CC_at hq3
      rw [ok_ixL (.inl (k11.at (at_push (S := S9) (o := .lst [.str [120], .str []])) (by simp; omega))) hat]
      refine ⟨_, rfl, ?_⟩
      refine SOk.seq ?_
      simp only [gNm, List.set_cons_succ, List.set_cons_zero, sok_asg, ok_eA, ok_aCons, ok_aNil, ok_var0, ok_varS]
      refine (vouchers_ok G11.dr G11.hs G11.sl W.sz).mono fun r S12 ⟨vs, e, hvl, k12, d12⟩ => ?_
      subst e
      have G12 := G11.dw k12 d12 (by simp)
      have kp12 := kp11.trans k12
      have C12 := C9.kp kp12 (by simp; omega) (by simp; omega)
      have he12 := kp12.at he9 (by simp; omega)
      have kk12 := kk9.trans (kp12.mono (by simp))
      refine ⟨_, rfl, ?_⟩
      refine SOk.seq ?_
      simp only [gNm, List.set_cons_succ, List.set_cons_zero]
      rw [sok_expr]
      refine ok_meth (r := ci) (c := 1) (fs := [(5, .int 3), (6, .ref kd)]) (mm := m_Cache_put) ?_
      simp only [ok_var0, ok_varS, ok_aCons, ok_aNil]
      refine ⟨trivial, C12.ins, rfl, (put_ok C12 I.ok t c vs).mono fun r S13 ⟨k13, C13, _⟩ => ?_⟩
      have hfr : ∀ e ∈ es, e.t ≠ t := fun e hh z => hnt (by rw [← z]; exact hin e hh)
      rw [aft_new hfr (by omega)] at C13
      have W13 := aft_ok I.ok htT hc hvl
      rw [aft_new hfr (by omega)] at W13
      have G13 := G12.kp k13 (by simp; omega)
      have he13 := k13.at he12 (by simp; omega)
      have kk13 := kk12.trans (k13.mono (by simp))
      simp only [sok_expr, ok_eMt, ok_var0, ok_varS, hasTy_lst he13, true_and, ok_aCons, ok_aNil, ok_eTup]
      refine ⟨leL (by simp), ?_⟩
      rw [ok_append he13 (ltL (by rw [List.length_map]; omega))]
      refine ⟨⟨_, _, _, rfl⟩, es ++ [⟨t, c, vs⟩], ?_, by simp; omega, ?_⟩
      · have ks : Kp [en] S13 (S13.set en (.lst (es.map Ent.row ++ [Ent.row ⟨t, c, vs⟩]))) := Kp.set
        refine ⟨G13.kp ks (by simp; omega), C13.kp ks (by simp; omega) (by simp; omega), ?_, W13, kk13.trans (ks.mono (by simp))⟩
        rw [List.map_append]
        exact at_set he13
      · intro e hh
        rw [htake]
        rcases List.mem_append.mp hh with h | h
        · exact List.mem_append_left _ (hin e h)
        · rw [List.mem_singleton.mp h]; simp
    · rw [if_neg hq0, sok_next]
      exact ⟨⟨_, _, _, rfl⟩, es, ⟨G9, C9, he9, I.ok, kk9⟩, by omega, fun e hh => by rw [htake]; exact List.mem_append_left _ (hin e hh)⟩
  · rintro E S8 ⟨⟨x12, x13, x16, rfl⟩, es, I, hl, hin⟩
    exact hP S8 es x12 x13 x16 ⟨I.sg, I.cac, I.ent, I.ok, (kk7.mono (by simp)).trans I.kp⟩
theorem cache_loop {P : PQ} {x6 x10 x12 x13 : Option D} (B : Bd S ns need rows [] ca kl []) (W : RowsG rows)
    (hP : ∀ S' cs x6 x12 x13 x14 x15 x16, Bd S' ns need rows [] ca kl cs → cs.length ≤ 3 → P.nx [some (.ref 0), some (.ref 1), some (.int need), some (.ref 2), some (.ref 7), some (.ref 8), x6, some (.ref ca), some (.ref kl), none, x10, none, x12, x13, x14, x15, x16, none] S') :
    SOk (s8 [some (.ref 0), some (.ref 1), some (.int need), some (.ref 2), some (.ref 7), some (.ref 8), x6, some (.ref ca), some (.ref kl), none, x10, none, x12, x13, none, none, none, none] S) P := by
  rw [s8_eq]
  refine sok_forQ ?_
  simp only [ok_eA, ok_aCons, ok_aNil, ok_var0, ok_varS, ok_c]
  refine (draw B.sg.dr (m := 4) (by decide) (by decide)).mono fun r S1 ⟨q, e, hq, d1, k1⟩ => ?_
  subst e
  refine ⟨q, fun i E S' => (∃ x6 x12 x13 x14 x15 x16, E = [some (.ref 0), some (.ref 1), some (.int need), some (.ref 2), some (.ref 7), some (.ref 8), x6, some (.ref ca), some (.ref kl), none, x10, none, x12, x13, x14, x15, x16, none]) ∧ ∃ cs, Bd S' ns need rows [] ca kl cs ∧ cs.length = i, rfl, lt_BIG (leL (by omega)), ⟨⟨_, _, _, _, _, _, rfl⟩, [], B.kp k1 d1 (by simp), rfl⟩, ?_, ?_⟩
  · rintro i E S2 hi ⟨⟨x6, x12, x13, x14, x15, x16, rfl⟩, cs, B2, hcl⟩
    have h8 := B2.sg.lt
    have hcal := lt_of_at B2.cas
    have hkll := lt_of_at B2.kls
    refine SOk.seq ?_
    simp only [List.set_cons_succ, List.set_cons_zero]
    rw [sok_asg]
    refine ok_make ?_
    simp only [ok_aCons, ok_aNil, ok_c]
    refine cinit_ok.mono fun r S3 ⟨e, k3, C3, l3⟩ => ?_
    subst e
    refine ⟨rfl, _, rfl, ?_⟩
    refine SOk.seq ?_
    simp only [gNm, List.set_cons_succ, List.set_cons_zero, sok_asg, ok_eLst, ok_aNil]
    refine ⟨leL (by simp), _, rfl, ?_⟩
    refine SOk.seq ?_
    simp only [List.set_cons_succ, List.set_cons_zero]
    have B4 : Bd (S3 ++ [.lst []]) ns need rows [] ca kl cs := B2.kp (M := []) k3.pushM (B2.sg.dr.kp (M := []) k3.pushM (by simp) (by simp)) (by simp)
    have k4 : Kp [] S2 (S3 ++ [.lst []]) := k3.pushM
    refine inner_ok B4.sg W (C3.kp (M := []) Kp.push (by simp) (by simp)) at_push (by omega) (by omega) (by omega) fun S5 es x12 x13 x16 I => ?_
    have k5 : Kp [1, S2.length + 1, S3.length] S2 S5 := (k4.mono (by simp)).trans I.kp
    have B5 := B2.kp k5 I.sg.dr (by simp; omega)
    refine SOk.seq ?_
    simp only [sok_expr, ok_eMt, ok_var0, ok_varS, hasTy_lst B5.cas, true_and, ok_aCons, ok_aNil]
    rw [ok_append B5.cas (ltL (by rw [List.length_map]; omega))]
    have hcl2 : ca ≠ kl := by have := B5.hkl; omega
    have hk6 : (S5.set ca (.lst ((cs.map fun k => .ref k.ci) ++ [.ref S2.length])))[kl]? = some (.lst (cs.map fun k => .ref k.en)) := by
      rw [List.getElem?_set_ne hcl2]; exact B5.kls
    simp only [sok_expr, ok_eMt, ok_var0, ok_varS, hasTy_lst hk6, true_and, ok_aCons, ok_aNil]
    rw [ok_append hk6 (ltL (by rw [List.length_map]; omega))]
    refine ⟨⟨_, _, _, _, _, _, rfl⟩, cs ++ [⟨S2.length, S2.length + 1, S3.length, es⟩], B5.snoc I.cac I.ent I.ok (by omega) (by omega) (by omega) (by omega) (by omega) ?_, by simp; omega⟩
    intro hm
    obtain ⟨k, hk, e⟩ := List.mem_map.mp hm
    have := lt_of_at (B2.cac k hk).kd
    omega
  · rintro E S2 ⟨⟨x6, x12, x13, x14, x15, x16, rfl⟩, cs, B2, hcl⟩
    exact hP S2 cs x6 x12 x13 x14 x15 x16 B2 (by omega)
end K39
end OfK39N

section OfK39O
set_option Elab.async false
set_option linter.all false
set_option maxRecDepth 100000
namespace K39
open PySem PySem.Spec PyProof.Rows L2 DL

variable {S S' : Sto} {need : Int} {rows : List Row} {gone : List Txt} {ci kd ca kl gl : Nat} {es : List Ent} {ns : List Int} {cs : List CK}
theorem gone_ok {P : PQ} {x6 x10 x12 x13 x14 x15 x16 : Option D} (B : Bd S ns need rows [] ca kl cs)
    (hP : ∀ S' gl (g : List Txt), Bd S' ns need rows [] ca kl cs → S'[gl]? = some (.lst (g.map D.str)) → g.Sublist houses → 8 < gl → gl ≠ kl → P.nx [some (.ref 0), some (.ref 1), some (.int need), some (.ref 2), some (.ref 7), some (.ref 8), x6, some (.ref ca), some (.ref kl), some (.ref gl), x10, none, x12, x13, x14, x15, x16, none] S') :
    SOk (s9 [some (.ref 0), some (.ref 1), some (.int need), some (.ref 2), some (.ref 7), some (.ref 8), x6, some (.ref ca), some (.ref kl), none, x10, none, x12, x13, x14, x15, x16, none] S) P := by
  unfold s9
  have h8 := B.sg.lt
  have hkll := lt_of_at B.kls
  rw [sok_asg]
  refine ok_lc ?_
  simp only [ok_iAny, ok_var0, ok_varS, anyQ_lst B.sg.hs]
  refine ⟨houses.map D.str, fun i acc S' => ∃ g : List Txt, acc = g.map D.str ∧ g.Sublist (houses.take i) ∧ S'[S.length]? = some (.lst acc) ∧ Kp [1] S S' ∧ Dr S' ns, rfl, ⟨[], rfl, by simp, at_push, Kp.push.nil, B.sg.dr.kp Kp.push (by simp) (by simp)⟩, ?_, ?_, ?_, ?_⟩
  · rintro i acc S' ⟨g, rfl, hg, hD, k, d⟩
    exact srcList_at (.inl (k.at B.sg.hs (by decide))) _
  · rintro i acc S' ⟨g, rfl, hg, hD, k, d⟩
    exact hD
  · rintro i d acc S1 hd ⟨g, rfl, hg, hD, k, d1⟩
    rw [List.getElem?_map] at hd
    obtain ⟨h, hh, rfl⟩ := Option.map_eq_some_iff.mp hd
    have htake : houses.take (i + 1) = houses.take i ++ [h] := by rw [List.take_succ, hh]; rfl
    have hgl : g.length ≤ 5 := by
      have := (hg.trans (List.take_sublist i houses)).length_le
      exact this
    refine ⟨_, rfl, ?_⟩
    simp only [wipeE, List.set_cons_succ, List.set_cons_zero, ok_tOfE, ok_e2, ok_eA, ok_aCons, ok_aNil, ok_var0, ok_varS, ok_c]
    refine (draw d1 (m := 5) (by decide) (by decide)).mono fun r S2 ⟨q, e, hq, d2, k2⟩ => ?_
    subst e
    have kk := k.trans k2
    have hD2 := k2.at hD (by simp; omega)
    simp only [ok_eqI, D.bl.injEq, exists_eq_left', beq_iff_eq]
    by_cases hq0 : (q : Int) = 0
    · rw [if_pos hq0]
      refine ⟨hD2, ltL (by rw [List.length_map]; omega), g ++ [h], by rw [List.map_append]; rfl, ?_, at_set hD2, kk.setN (Nat.le_refl _), d2.kp Kp.set (by simp; omega) (by simp; omega)⟩
      rw [htake]
      exact hg.append (List.Sublist.refl _)
    · rw [if_neg hq0]
      refine ⟨g, rfl, ?_, hD2, kk, d2⟩
      rw [htake]
      exact hg.trans (List.sublist_append_left _ _)
  · rintro acc S1 ⟨g, rfl, hg, hD, k, d1⟩
    refine ⟨_, rfl, ?_⟩
    exact hP S1 S.length g (B.kp k d1 (by simp)) hD (hg.trans (List.take_sublist _ _)) h8 (by omega)
theorem Bd.rev (B : Bd S ns need rows [] ca kl cs) (k : Kp [4] S S') (R : Ros S' need rows gone) : Bd S' ns need rows gone ca kl cs :=
  ⟨⟨B.sg.dr.kp k (by decide) (by decide), R, k.at B.sg.hs (by decide), k.at B.sg.sl (by decide)⟩, k.at B.cas (by have := B.hca; simp; omega), k.at B.kls (by have := B.hca; have := B.hkl; simp; omega),
    fun x hx => (B.cac x hx).kp k (by have := (B.ne x hx).1; simp; omega) (by have := (B.ne x hx).2.1; simp; omega), fun x hx => k.at (B.ent x hx) (by have := (B.ne x hx).2.2.1; simp; omega), B.ok, B.ne, B.nd, B.hca, B.hkl⟩
theorem revs_ok {P : PQ} {x6 x10 x12 x13 x14 x15 x16 : Option D} (B : Bd S ns need rows [] ca kl cs) (hg : S[gl]? = some (.lst (gone.map D.str))) (hs : gone.Sublist houses) (h8 : 8 < gl)
    (hP : ∀ S' x10, Bd S' ns need rows gone ca kl cs → S'[gl]? = some (.lst (gone.map D.str)) → P.nx [some (.ref 0), some (.ref 1), some (.int need), some (.ref 2), some (.ref 7), some (.ref 8), x6, some (.ref ca), some (.ref kl), some (.ref gl), x10, none, x12, x13, x14, x15, x16, none] S') :
    SOk (s10 [some (.ref 0), some (.ref 1), some (.int need), some (.ref 2), some (.ref 7), some (.ref 8), x6, some (.ref ca), some (.ref kl), some (.ref gl), x10, none, x12, x13, x14, x15, x16, none] S) P := by
  unfold s10
  have hgl : gone.length ≤ 5 := hs.length_le
  have hnd := hs_nd.sublist hs
  refine sok_forL (ds := gone.map D.str) (r := gl) (fun i E S' => (∃ x10, E = [some (.ref 0), some (.ref 1), some (.int need), some (.ref 2), some (.ref 7), some (.ref 8), x6, some (.ref ca), some (.ref kl), some (.ref gl), x10, none, x12, x13, x14, x15, x16, none]) ∧ Kp [4] S S' ∧ Ros S' need rows (gone.take i)) ?_
  simp only [ok_var0, ok_varS]
  refine ⟨trivial, hg, ⟨⟨_, rfl⟩, .refl, B.sg.ros⟩, fun i E S' hI => hI.2.1.at hg (by simp; omega), ?_, ?_⟩
  · rintro i d E S1 hd ⟨⟨x10, rfl⟩, k1, R1⟩
    rw [List.getElem?_map] at hd
    obtain ⟨h, hh, rfl⟩ := Option.map_eq_some_iff.mp hd
    have htake : gone.take (i + 1) = gone.take i ++ [h] := by rw [List.take_succ, hh]; rfl
    refine ⟨_, rfl, ?_⟩
    simp only [List.set_cons_succ, List.set_cons_zero]
    rw [sok_expr]
    refine ok_meth (r := 2) (c := 0) (fs := [(0, .int need), (1, .ref 3), (2, .ref 4), (3, .ref 5), (4, .ref 6)]) (mm := m_Roster_revoke) ?_
    simp only [ok_var0, ok_varS, ok_aCons, ok_aNil]
    have hnt : (gone.take i).contains h = false := by
      have := nd_take hnd hh
      simpa using this
    refine ⟨trivial, R1.ins, rfl, (revoke_ok R1 (hs.mem (List.mem_of_getElem? hh)) hnt (by rw [List.length_take]; omega)).mono fun r S2 ⟨k2, R2⟩ => ?_⟩
    refine ⟨⟨_, rfl⟩, k1.trans k2, ?_⟩
    rw [htake]
    exact R2
  · rintro E S1 ⟨⟨x10, rfl⟩, k1, R1⟩
    rw [List.length_map, List.take_length] at R1
    exact hP S1 x10 (B.rev k1 R1) (k1.at hg (by simp; omega))
theorem Bd.look (B : Bd S ns need rows gone ca kl cs) (W : RowsG rows) (hl : cs.length ≤ 3) (hg : S[gl]? = some (.lst (gone.map D.str))) : Ok (m__law_looked [.ref ca, .ref kl, .ref 2, .ref 8, .ref gl, .int need] S) fun r S' => r = .bl true ∧ Kp [] S S' :=
  looked_ok (cs := cs) ⟨B.sg.ros, B.sg.sl, hg, B.cas, B.kls, B.cac, B.ent⟩ ⟨W.ok, by have := W.few; omega, B.ok, by omega⟩
theorem turns_ok {P : PQ} {x6 x10 x12 x13 x14 x15 x16 : Option D} (B : Bd S ns need rows gone ca kl cs) (W : RowsG rows) (hl : cs.length ≤ 3) (hg : S[gl]? = some (.lst (gone.map D.str))) (h8 : 8 < gl) (hne : gl ≠ kl)
    (hP : ∀ S' cs x6 x11 x17, Bd S' ns need rows gone ca kl cs → cs.length ≤ 3 → S'[gl]? = some (.lst (gone.map D.str)) → P.nx [some (.ref 0), some (.ref 1), some (.int need), some (.ref 2), some (.ref 7), some (.ref 8), x6, some (.ref ca), some (.ref kl), some (.ref gl), x10, x11, x12, x13, x14, x15, x16, x17] S') :
    SOk (s11 [some (.ref 0), some (.ref 1), some (.int need), some (.ref 2), some (.ref 7), some (.ref 8), x6, some (.ref ca), some (.ref kl), some (.ref gl), x10, none, x12, x13, x14, x15, x16, none] S) P := by
  unfold s11
  refine sok_forQ ?_
  simp only [ok_aCons, ok_aNil, ok_c]
  refine ⟨3, fun i E S' => (∃ x6 x11 x17, E = [some (.ref 0), some (.ref 1), some (.int need), some (.ref 2), some (.ref 7), some (.ref 8), x6, some (.ref ca), some (.ref kl), some (.ref gl), x10, x11, x12, x13, x14, x15, x16, x17]) ∧ ∃ cs, Bd S' ns need rows gone ca kl cs ∧ cs.length ≤ 3 ∧ S'[gl]? = some (.lst (gone.map D.str)), rfl, lt_BIG (leL (by omega)), ⟨⟨_, _, _, rfl⟩, cs, B, hl, hg⟩, ?_, ?_⟩
  · rintro i E S1 hi ⟨⟨x6, x11, x17, rfl⟩, cs, B1, hl, hg1⟩
    refine SOk.seq ?_
    simp only [List.set_cons_succ, List.set_cons_zero]
    rw [sok_if]
    simp only [ok_tNot, ok_tTru, ok_eA, ok_aCons, ok_aNil, ok_var0, ok_varS]
    refine (B1.look W hl hg1).mono fun r S2 ⟨e, k2⟩ => ?_
    subst e
    refine ⟨true, rfl, ?_⟩
    simp only [Bool.not_true, Bool.false_eq_true, if_false, sok_next]
    have B2 := B1.kp k2 (B1.sg.dr.kp k2 (by simp) (by simp)) (by simp)
    have hg2 := k2.at hg1 (by simp)
    refine sok_forQ ?_
    simp only [ok_eA, ok_aCons, ok_aNil, ok_var0, ok_varS, ok_lenL (.inl B2.cas), List.length_map]
    refine ⟨cs.length, fun i' E S' => (∃ x6 x17, E = [some (.ref 0), some (.ref 1), some (.int need), some (.ref 2), some (.ref 7), some (.ref 8), x6, some (.ref ca), some (.ref kl), some (.ref gl), x10, some (.int i), x12, x13, x14, x15, x16, x17]) ∧ ∃ cs', Bd S' ns need rows gone ca kl cs' ∧ cs'.length = cs.length ∧ S'[gl]? = some (.lst (gone.map D.str)), rfl, lt_BIG (leL (by omega)), ⟨⟨_, _, rfl⟩, cs, B2, rfl, hg2⟩, ?_, ?_⟩
    · rintro j E S3 hj ⟨⟨x6, x17, rfl⟩, cs', B3, hl3, hg3⟩
      have h8 := B3.sg.lt
      have hgl3 := lt_of_at hg3
      simp only [List.set_cons_succ, List.set_cons_zero]
      rw [sok_if]
      simp only [ok_tOfE, ok_e2, ok_eA, ok_aCons, ok_aNil, ok_var0, ok_varS, ok_c]
      refine (draw B3.sg.dr (m := 2) (by decide) (by decide)).mono fun r S4 ⟨q, e, hq, d4, k4⟩ => ?_
      subst e
      have B4 := B3.kp k4 d4 (by simp)
      have hg4 := k4.at hg3 (by simp; omega)
      simp only [ok_eqI, D.bl.injEq, exists_eq_left', beq_iff_eq]
      by_cases hq0 : (q : Int) = 0
      · rw [if_pos hq0]
        obtain ⟨k, hk⟩ : ∃ k, cs'[j]? = some k := ⟨_, List.getElem?_eq_getElem (by omega)⟩
        have hm := List.mem_of_getElem? hk
        have hca : atI (cs'.map fun k => D.ref k.ci) (j : Int) = some (.ref k.ci) := atI_nat (by rw [List.getElem?_map, hk]; rfl)
        have hke : atI (cs'.map fun k => D.ref k.en) (j : Int) = some (.ref k.en) := atI_nat (by rw [List.getElem?_map, hk]; rfl)
        have h4l := B4.sg.lt
        have hgl4 := lt_of_at hg4
        refine SOk.seq ?_
        simp only [sok_asg, ok_e2, ok_eA, ok_aCons, ok_aNil, ok_var0, ok_varS, ok_ixL (.inl B4.cas) hca, ok_ixL (.inl B4.kls) hke]
        have hen1 : k.en ≠ 1 := by have := (B4.ne k hm).2.2.1; omega
        refine (spoilt_ok B4.sg.dr (B4.cac k hm) (B4.ok k hm) (B4.ent k hm) hen1).mono fun r S5 ⟨n, es', e, hn, k5, d5, C5, he5, W5⟩ => ?_
        subst e
        refine ⟨_, rfl, ?_⟩
        refine SOk.seq ?_
        have hisN : ∀ {S : Sto} {Q : D → Sto → Prop}, Ok (oIsN (.ref n) .non S) Q = Q (.bl false) S := fun {S Q} => by rw [ok_isN]; rfl
        simp only [gNm, List.set_cons_succ, List.set_cons_zero, sok_if, ok_tOfE, ok_e2, ok_var0, ok_varS, ok_c, hisN, D.bl.injEq, exists_eq_left', Bool.false_eq_true, if_false, sok_next]
        have hkd : ∀ {x}, S4[k.kd]? = some (O.lst x) → False := fun h => by rw [(B4.cac k hm).kd] at h; cases h
        have hklkd : kl ≠ k.kd := fun e => hkd (e ▸ B4.kls)
        have hglkd : gl ≠ k.kd := fun e => hkd (e ▸ hg4)
        have hkl5 := k5.at B4.kls (by have := B4.hca; have := B4.hkl; simp; omega)
        have hix : ixN (cs'.map fun k => D.ref k.en).length (j : Int) = some j := by
          rw [List.length_map]
          unfold ixN
          rw [if_pos (by omega), if_pos (by omega), Int.toNat_natCast]
        simp only [sok_sub, ok_var0, ok_varS]
        refine ⟨_, stSub_lst hkl5 hix, ⟨_, _, rfl⟩, _, B4.upd hk k5 d5 C5 he5 W5 hn, by rw [List.length_set]; exact hl3, ?_⟩
        rw [List.getElem?_set_ne (Ne.symm hne)]
        exact k5.at hg4 (by simp; omega)
      · rw [if_neg hq0, sok_next]
        exact ⟨⟨_, _, rfl⟩, cs', B4, hl3, hg4⟩
    · rintro E S3 ⟨⟨x6, x17, rfl⟩, cs', B3, hl3, hg3⟩
      exact ⟨⟨_, _, _, rfl⟩, cs', B3, by omega, hg3⟩
  · rintro E S1 ⟨⟨x6, x11, x17, rfl⟩, cs, B1, hl, hg1⟩
    exact hP S1 cs x6 x11 x17 B1 hl hg1
theorem law_ok (ns : List Int) (hn : ns.length ≤ 63) : Ok (m_law [.ref 0] [.frz (ns.map D.int)]) fun r _ => r = .bl true := by
  refine ok_def rfl ?_
  have hE : env0 18 [.ref 0] = [some (.ref 0), none, none, none, none, none, none, none, none, none, none, none, none, none, none, none, none, none] := rfl
  rw [hE, law_eq]
  refine SOk.seq ?_
  simp only [sok_asg, ok_eLst, ok_aCons, ok_aNil, ok_c]
  refine ⟨leL (by simp), _, rfl, ?_⟩
  refine SOk.seq ?_
  simp only [gNm, List.set_cons_succ, List.set_cons_zero, sok_asg, ok_e2, ok_eA, ok_aCons, ok_aNil, ok_var0, ok_varS, ok_c]
  refine (next39 (S := [.frz (ns.map D.int), .lst [.int 0, .int 0, .int 1]]) (st := 1) (sc := 0) (a := 0) (b := 0) (c := 1) (m := 3) (ns := ns) rfl rfl (by decide) (by decide) (by decide)).mono fun r S1 ⟨q, a, b, c, e1, hq0, hq3, ha, e2⟩ => ?_
  subst e1 e2
  rw [ok_addI]
  refine ⟨_, rfl, ?_⟩
  have eS : ([.frz (ns.map D.int), .lst [.int 0, .int 0, .int 1]] : Sto).set 1 (.lst [.int a, .int b, .int c]) = [.frz (ns.map D.int), .lst [.int a, .int b, .int c]] := rfl
  rw [eS]
  refine SOk.seq ?_
  simp only [gNm, List.set_cons_succ, List.set_cons_zero]
  rw [sok_asg]
  refine ok_make ?_
  simp only [ok_aCons, ok_aNil, ok_var0, ok_varS]
  refine rinit_ok.mono fun r S2 ⟨e1, e2⟩ => ?_
  subst e1 e2
  refine ⟨rfl, _, rfl, ?_⟩
  refine SOk.seq ?_
  simp only [gNm, List.set_cons_succ, List.set_cons_zero, sok_asg, ok_eA, ok_aCons, ok_aNil, ok_var0, ok_varS, ok_c]
  refine houses_ok.mono fun r S3 ⟨e1, e2⟩ => ?_
  subst e1 e2
  refine ⟨_, rfl, ?_⟩
  refine SOk.seq ?_
  simp only [gNm, List.set_cons_succ, List.set_cons_zero, sok_asg, ok_eLst, ok_aNil]
  refine ⟨leL (by simp), _, rfl, ?_⟩
  refine SOk.seq ?_
  simp only [gNm, List.set_cons_succ, List.set_cons_zero]
  refine sign_loop (ns := ns) (need := 1 + q) ⟨⟨⟨a, b, c, rfl, ha⟩, rfl⟩, ⟨rfl, rfl, rfl, rfl⟩, rfl, rfl⟩ fun S4 rows x6 x10 x12 x13 G4 W => ?_
  have h4 := G4.lt
  refine SOk.seq ?_
  simp only [sok_asg, ok_eLst, ok_aNil]
  refine ⟨leL (by simp), _, rfl, ?_⟩
  refine SOk.seq ?_
  simp only [gNm, List.set_cons_succ, List.set_cons_zero, sok_asg, ok_eLst, ok_aNil]
  refine ⟨leL (by simp), _, rfl, ?_⟩
  refine SOk.seq ?_
  simp only [gNm, List.set_cons_succ, List.set_cons_zero]
  have B5 : Bd (S4 ++ [.lst []] ++ [.lst []]) ns (1 + q) rows [] S4.length (S4 ++ [O.lst []]).length [] :=
    ⟨G4.kp (M := []) Kp.push.pushM (by simp), Kp.push.at (M := []) at_push (by simp), at_push, fun k h => (List.not_mem_nil h).elim, fun k h => (List.not_mem_nil h).elim, fun k h => (List.not_mem_nil h).elim, fun k h => (List.not_mem_nil h).elim, List.nodup_nil, by omega, by simp⟩
  refine cache_loop B5 W fun S6 cs x6 x12 x13 x14 x15 x16 B6 hl => ?_
  refine SOk.seq ?_
  refine gone_ok B6 fun S7 gl g B7 hg7 hsub h8 hne => ?_
  refine SOk.seq ?_
  refine revs_ok B7 hg7 hsub h8 fun S8 x10 B8 hg8 => ?_
  refine SOk.seq ?_
  refine turns_ok B8 W hl hg8 h8 hne fun S9 cs x6 x11 x17 B9 hl hg9 => ?_
  simp only [sok_ret, ok_eA, ok_aCons, ok_aNil, ok_var0, ok_varS]
  exact (B9.look W hl hg9).mono fun r S10 h => h.1
theorem pure_law : ∀ ns : List Int, ns.length ≤ 63 → ∃ S, m_law [.ref 0] [.frz (ns.map D.int)] = .ok (.bl true) S := by
  intro ns hn
  obtain ⟨d, S, e, h⟩ := (law_ok ns hn).eq
  subst h
  exact ⟨S, e⟩
end K39
end OfK39O

section OfH39
set_option Elab.async false
set_option linter.all false
set_option maxRecDepth 100000
set_option maxHeartbeats 0
namespace K39
open PySem PySem.Spec PyProof.Rows L2 DL
abbrev RR : PySem.W.OpenRow := PySem.W.OpenLaw.row PySem.Challenge.rw_truemill_k39_good_claims
def loose0 : List Str := ["_wall", "MillError", "RosterProblem", "MOST_HOUSES", "words_of", "Topic", "Roster", "Cache", "good_claim", "look_up", "_law_next", "_law_same", "_law_words_of", "_law_houses", "_law_topics", "_law_vouchers", "_law_good", "_law_kept", "_law_entry", "_law_looked", "_law_spoilt"]
def loose : List Str := loose0
abbrev hk : PySem.W.Hook := hookL 5 dfa dfn
def ob (s : PySem.W.SharedT) : He.AlD := obsDL 5 dfa dfn (HandSHeadRun.getT s)
theorem ob_eq (s : PySem.W.SharedT) : ob s = hk.obs s.abs := obsDL_eq (HandSHeadRun.getT_eq s)
theorem run (w : World) : HandSHeadRun.RunEq RR (PySem.W.view RR.prog [25]) hk ob 4000 loose w := by
  intro os
  kernel_rfl
theorem facts {P : Program} {w : World} {K : PySem.W.Frag} {h : Heap} {mg : Str → Option Value} {f : Addr} (X : K.In h) (GN : h.Ns mainGlobals mg) (hfa : mg ("law" : Str) = some (.ref f)) (hl : ∀ a o, K.lookup a = some o → o.cls ≠ .type "list") (c : He.SaysD dfa dfn K) :
    ∃ (fd : FuncData) (sp : Sp), (∀ (s : Shared) (v : Value), BindsTo s fd ⟨[v], []⟩ [("_law_script", v)]) ∧ (∀ (H : Hp) (a : Addr) (ns : List Int), ns.length ≤ 63 → Only H → SqL K H a (ns.map V.int) → sp [.ref a] H (fun v _ => v = .bl true) fun _ _ _ => False) ∧
      ∀ base : Heap, K.In base → base.Ns mainGlobals mg → FnOk P w K mg base (L2.CX P w) lawLevel f fd ["_law_script"] sp := by
  have e : Fx K mg := ⟨c, fun _ h => He.glo_ok X GN h, fun _ h => He.free_ok X GN h, fun _ _ h => He.int_ok X GN h, fun _ _ h => He.str_ok X GN h⟩
  obtain ⟨fd, F⟩ := c.def_ lawIx rfl
  have ef := hfa.symm.trans (lawGlo e)
  cases ef
  have b := FunD.bindsA (ps := ["_law_script"]) F fun _ _ _ _ _ _ us hl => match us, hl with | [_], _ => rfl
  exact ⟨fd, spD (gg K) 1 m_law, fun s v => b s [v] rfl, fun H a ns hn hO hS => sp_law (g := gg K) pure_law hl H a ns hn hO hS, fun base _ _ => okF_law e F⟩
end K39
open PySem PySem.W PySem.Calls PyProof.Rows DL
theorem PySem.Challenge.cw_truemill_k39_good_claims_holds : PySem.Challenge.rw_truemill_k39_good_claims.Holds := by
  w_on; o_law
  refine HandSHeadRun.head_any (r := OpenLaw.row PySem.Challenge.rw_truemill_k39_good_claims) (q := view (OpenLaw.row PySem.Challenge.rw_truemill_k39_good_claims).prog [25]) (H := K39.hk) (ob := K39.ob) (M := 4000) (loose := K39.loose) (d := HandSHeadRun.topDef (OpenLaw.row PySem.Challenge.rw_truemill_k39_good_claims).prog 25) (kwd := []) K39.ob_eq
    (by kernel_rfl) (fun s => by kernel_rfl) K39.run (by kernel_rfl) (by kernel_rfl) (by kernel_rfl) (by rfl) (by first | assumption | decide +kernel) (by decide +kernel) ⟨rfl, rfl, rfl, rfl, rfl, by decide +kernel⟩ ?hw ?hc
  case hw => w_witness2
  case hc =>
    refine walk_ofD (l := PySem.Challenge.rw_truemill_k39_good_claims) (n := 63) (k := K39.lawLevel) (x := "_law_script") rfl (by decide) (by kernel_rfl) ⟨rfl, by decide, by decide⟩ ?F
    intro w mg fa h Y GN hmg0
    obtain ⟨K, KX, hl, c⟩ := Y
    have hmg : mg ("law" : PySem.Str) = some (.ref fa) := by
      have e : (HandSHeadRun.topDef (OpenLaw.row PySem.Challenge.rw_truemill_k39_good_claims).prog 25).name = ("law" : PySem.Str) := by kernel_rfl
      rw [← e]
      exact hmg0
    obtain ⟨fd, sp, hb, hsp, hF⟩ := K39.facts (P := (PySem.Challenge.rw_truemill_k39_good_claims).prog) (w := w) KX GN hmg hl c
    exact ⟨K, fd, sp, KX, hb, hsp, hF⟩
end OfH39
