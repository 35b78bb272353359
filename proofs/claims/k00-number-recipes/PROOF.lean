import PyProof.Rows.All
import Wide.All
import OpenK.AllK
import Wide.FinOn
import HandS.ForMost
import HandS.TupAny
import HandS.WideBits
import HandS.Wide
import HandS.Style
import HandS.Deep
import HandS.IsInst
import HandS.Codes
import HandS.TupMul
import HandS.More
import HandS.Exc
import HandS.ExcOwn
import HandS.WordsExc
import HandS.CallSlots
import HandS.Comp
import HandS.Iter
import HandS.Zip
import HandS.WordsList
import HandS.Dict
import KE.GoesNew
import KE.GoesEnum
import HandS.EndBits
import KE.IntBitsLaws
import PySem.Challenge.RW_gluebridge_k00_number_recipes
set_option Elab.async false
set_option linter.all false
set_option maxRecDepth 100000
/-! Pm: a translator's core. Pure data D, a small store S of what is changed, results R; how they stand to the layer's values V and heaps Hp; combinators of simulation. -/
namespace Pm
open PySem PySem.Spec PyProof.Rows L2

/-! ### data, store, results -/
/-- data: lst, tup, ins are finished (nothing changes them any more); ref n is the n-th thing of the store -/
inductive D where
  | non | bl (b : Bool) | int (i : Int) | str (x : Str)
  | tup (xs : List D) | lst (xs : List D) | ref (n : Nat)
  | ins (C : Str) (fs : List (Str × D))
  | glo (a : Addr) | ty (n : String)
  | dic (kvs : List (Str × D))
/-- a thing of the store -/
inductive O where
  | lst (xs : List D)
  | ins (C : Str) (fs : List (Str × D))
abbrev S := List O
abbrev Rho := List (Option D)
inductive R (α : Type) where
  | ok (a : α) (s : S)
  | exc (x : D) (s : S)
  | bad
def R.bind {α β : Type} (r : R α) (f : α → S → R β) : R β := match r with
  | .ok a s => f a s
  | .exc x s => .exc x s
  | .bad => .bad
theorem R.bind_ok {α β : Type} (a : α) (s : S) (f : α → S → R β) : (R.ok a s).bind f = f a s := rfl
theorem R.bind_exc {α β : Type} (x : D) (s : S) (f : α → S → R β) : (R.exc x s : R α).bind f = .exc x s := rfl
theorem R.bind_bad {α β : Type} (f : α → S → R β) : (R.bad : R α).bind f = .bad := rfl
/-- how a statement ends -/
inductive C where
  | nx (ρ : Rho) | rt (d : D) | bk (ρ : Rho) | ct (ρ : Rho)
/-- a statement's result: an exception leaves with the slots as they stand -/
inductive RS where
  | ok (c : C) (s : S)
  | exc (x : D) (ρ : Rho) (s : S)
  | bad
abbrev ME := Rho → S → R D
abbrev MT := Rho → S → R Bool
abbrev MA := Rho → S → R (List D)
abbrev MS := Rho → S → RS
/-- an expression in a statement at the slots ρ -/
def R.st {α : Type} (r : R α) (ρ : Rho) (f : α → S → RS) : RS := match r with
  | .ok a s => f a s
  | .exc x s => .exc x ρ s
  | .bad => .bad
def RS.andThen (r : RS) (f : Rho → S → RS) : RS := match r with
  | .ok (.nx ρ) s => f ρ s
  | .ok c s => .ok c s
  | .exc x ρ s => .exc x ρ s
  | .bad => .bad

/-! ### how data stand to values -/
section
variable (K : PySem.W.Frag) (w : World) (cl : Str → Option Addr)
abbrev LsQ (H : Hp) (a : Addr) (xs : List V) : Prop := SqL K H a xs
def SL (ι : List Addr) (H : Hp) (a : Addr) (xs : List V) : Prop := (Rd H a (.lst xs) ∧ a ∉ ι) ∨
  ∃ (o : Obj) (its : Array Value) (n : Nat), K.lookup a = some o ∧ o.cls = .type "list" ∧ o.dict = none ∧ o.data = .seq its n ∧ its.size ≤ sizeLine ∧ Vals xs its.toList
def ST (ι : List Addr) (H : Hp) (a : Addr) (xs : List V) : Prop := (Rd H a (.tup xs) ∧ a ∉ ι) ∨
  ∃ (o : Obj) (its : Array Value) (n : Nat), K.lookup a = some o ∧ o.cls = .type "tuple" ∧ o.data = .seq its n ∧ its.size ≤ sizeLine ∧ Vals xs its.toList
/-- a dict of the written part, its keys texts -/
def KDx (a : Addr) (vs : List (Str × V)) : Prop := ∃ (es : Array DictEntry) (n : Nat) (us : List (Str × Value)), K.lookup a = some ⟨.type "dict", none, .dict es n, #[]⟩ ∧ PySem.W.KeysLit w.params es.toList ∧ (a == sysModules) = false ∧
  (∀ z : Str, PySem.W.nsIn K a z = some (us.lookup z)) ∧ Paired (fun (p : Str × V) (q : Str × Value) => p.1 = q.1 ∧ RelV p.2 q.2) vs us
mutual
inductive RelD (ι : List Addr) (H : Hp) : D → V → Prop
  | non : RelD ι H .non .non
  | bl (b : Bool) : RelD ι H (.bl b) (.bl b)
  | int (i : Int) : RelD ι H (.int i) (.int i)
  | str (x : Str) : RelD ι H (.str x) (.str x)
  | tup {ds : List D} {a : Addr} {vs : List V} (h : ST K ι H a vs) (r : RelDs ι H ds vs) : RelD ι H (.tup ds) (.ref a)
  | lst {ds : List D} {a : Addr} {vs : List V} (h : SL K ι H a vs) (r : RelDs ι H ds vs) : RelD ι H (.lst ds) (.ref a)
  | ref {n : Nat} {a : Addr} (h : ι[n]? = some a) : RelD ι H (.ref n) (.ref a)
  | ins {c : Str} {A a dx : Addr} {fs : List (Str × D)} {vs : List (Str × V)} (hc : cl c = some A) (hk : Cls K A) (h : H a = some (.ins A dx vs)) (ha : a ∉ ι) (r : RelFs ι H fs vs) : RelD ι H (.ins c fs) (.ref a)
  | glo (a : Addr) : RelD ι H (.glo a) (.ref a)
  | ty (n : String) : RelD ι H (.ty n) (.ty n)
  | dic {kvs : List (Str × D)} {a : Addr} {vs : List (Str × V)} (h : KDx K w a vs) (r : RelFs ι H kvs vs) : RelD ι H (.dic kvs) (.ref a)
inductive RelDs (ι : List Addr) (H : Hp) : List D → List V → Prop
  | nil : RelDs ι H [] []
  | cons {d : D} {v : V} {ds : List D} {vs : List V} (r : RelD ι H d v) (t : RelDs ι H ds vs) : RelDs ι H (d :: ds) (v :: vs)
inductive RelFs (ι : List Addr) (H : Hp) : List (Str × D) → List (Str × V) → Prop
  | nil : RelFs ι H [] []
  | cons {f : Str} {d : D} {v : V} {ds : List (Str × D)} {vs : List (Str × V)} (r : RelD ι H d v) (t : RelFs ι H ds vs) : RelFs ι H ((f, d) :: ds) ((f, v) :: vs)
end
end

/-- what lies behind: new things come last in ι; all that was tracked outside of ι is as it was -/
structure Ext (ι : List Addr) (H : Hp) (ι' : List Addr) (H' : Hp) : Prop where
  pre : ∃ l, ι' = ι ++ l
  keep : ∀ a o, H a = some o → a ∉ ι → H' a = some o ∧ a ∉ ι'
theorem Ext.refl (ι : List Addr) (H : Hp) : Ext ι H ι H := ⟨⟨[], (List.append_nil ι).symm⟩, fun _ _ h n => ⟨h, n⟩⟩
theorem Ext.trans {ι ι1 ι2 : List Addr} {H H1 H2 : Hp} (a : Ext ι H ι1 H1) (b : Ext ι1 H1 ι2 H2) : Ext ι H ι2 H2 := by
  obtain ⟨l1, e1⟩ := a.pre
  obtain ⟨l2, e2⟩ := b.pre
  refine ⟨⟨l1 ++ l2, by rw [e2, e1, List.append_assoc]⟩, fun x o h n => ?_⟩
  obtain ⟨h1, n1⟩ := a.keep x o h n
  exact b.keep x o h1 n1
/-- a new object that the store does not know -/
theorem Ext.new {ι : List Addr} {H : Hp} {p : Addr} {o : HO} (h : H p = none) : Ext ι H ι (upd H p o) :=
  ⟨⟨[], (List.append_nil ι).symm⟩, fun a o' e n => ⟨by rw [upd_ne (ne_of_none e h)]; exact e, n⟩⟩
/-- a new thing of the store -/
theorem Ext.push {ι : List Addr} {H : Hp} {p : Addr} {o : HO} (h : H p = none) : Ext ι H (ι ++ [p]) (upd H p o) :=
  ⟨⟨[p], rfl⟩, fun a o' e n => ⟨by rw [upd_ne (ne_of_none e h)]; exact e, fun m => by
    rcases List.mem_append.mp m with m | m
    · exact n m
    · exact ne_of_none e h (List.mem_singleton.mp m)⟩⟩
/-- a thing of the store is changed -/
theorem Ext.write {ι : List Addr} {H : Hp} {p : Addr} {o : HO} (h : p ∈ ι) : Ext ι H ι (upd H p o) :=
  ⟨⟨[], (List.append_nil ι).symm⟩, fun a o' e n => ⟨by rw [upd_ne (fun z => n (by rw [z]; exact h))]; exact e, n⟩⟩
section
variable {K : PySem.W.Frag} {w : World} {cl : Str → Option Addr} {ι ι' : List Addr} {H H' : Hp}
theorem Rd.ext {a : Addr} {u : HO} (x : Ext ι H ι' H') (h : Rd H a u) (n : a ∉ ι) : Rd H' a u ∧ a ∉ ι' := by
  rcases h with h | ⟨o, h⟩
  · exact ⟨.inl (x.keep _ _ h n).1, (x.keep _ _ h n).2⟩
  · exact ⟨.inr ⟨o, (x.keep _ _ h n).1⟩, (x.keep _ _ h n).2⟩
theorem SL.ext {a : Addr} {xs : List V} (x : Ext ι H ι' H') (h : SL K ι H a xs) : SL K ι' H' a xs := by
  rcases h with ⟨h, n⟩ | h
  · exact .inl (Rd.ext x h n)
  · exact .inr h
theorem ST.ext {a : Addr} {xs : List V} (x : Ext ι H ι' H') (h : ST K ι H a xs) : ST K ι' H' a xs := by
  rcases h with ⟨h, n⟩ | h
  · exact .inl (Rd.ext x h n)
  · exact .inr h
theorem LsQ.sq {a : Addr} {xs : List V} (h : LsQ K H a xs) : SqL K H a xs := h
theorem SL.ls {a : Addr} {xs : List V} (h : SL K ι H a xs) : LsQ K H a xs := by
  rcases h with ⟨h, n⟩ | h
  · exact .inl h
  · exact .inr h
theorem SL.sq {a : Addr} {xs : List V} (h : SL K ι H a xs) : SqL K H a xs := SL.ls h
theorem ST.sq {a : Addr} {xs : List V} (h : ST K ι H a xs) : SqT K H a xs := by
  rcases h with ⟨h, n⟩ | h
  · exact .inl h
  · exact .inr h
theorem Ext.at {n : Nat} {a : Addr} (x : Ext ι H ι' H') (h : ι[n]? = some a) : ι'[n]? = some a := by
  obtain ⟨l, e⟩ := x.pre
  obtain ⟨hn, e2⟩ := List.getElem?_eq_some_iff.mp h
  rw [e, List.getElem?_append_left hn]
  exact h
mutual
theorem RelD.ext (x : Ext ι H ι' H') : ∀ {d : D} {v : V}, RelD K w cl ι H d v → RelD K w cl ι' H' d v
  | _, _, .non => .non
  | _, _, .bl b => .bl b
  | _, _, .int i => .int i
  | _, _, .str y => .str y
  | _, _, .tup h r => .tup (h.ext x) (RelDs.ext x r)
  | _, _, .lst h r => .lst (h.ext x) (RelDs.ext x r)
  | _, _, .ref h => .ref (x.at h)
  | _, _, .ins hc hk h ha r => .ins hc hk (x.keep _ _ h ha).1 (x.keep _ _ h ha).2 (RelFs.ext x r)
  | _, _, .glo a => .glo a
  | _, _, .ty n => .ty n
  | _, _, .dic h r => .dic h (RelFs.ext x r)
theorem RelDs.ext (x : Ext ι H ι' H') : ∀ {ds : List D} {vs : List V}, RelDs K w cl ι H ds vs → RelDs K w cl ι' H' ds vs
  | _, _, .nil => .nil
  | _, _, .cons r t => .cons (RelD.ext x r) (RelDs.ext x t)
theorem RelFs.ext (x : Ext ι H ι' H') : ∀ {ds : List (Str × D)} {vs : List (Str × V)}, RelFs K w cl ι H ds vs → RelFs K w cl ι' H' ds vs
  | _, _, .nil => .nil
  | _, _, .cons r t => .cons (RelD.ext x r) (RelFs.ext x t)
end
end

/-- a thing of the store as it stands -/
def RelO (K : PySem.W.Frag) (w : World) (cl : Str → Option Addr) (ι : List Addr) (H : Hp) : O → Addr → Prop
  | .lst ds, a => ∃ vs, H a = some (.lst vs) ∧ RelDs K w cl ι H ds vs
  | .ins c fs, a => ∃ A dx vs, cl c = some A ∧ Cls K A ∧ H a = some (.ins A dx vs) ∧ RelFs K w cl ι H fs vs
structure RelS (K : PySem.W.Frag) (w : World) (cl : Str → Option Addr) (ι : List Addr) (s : S) (H : Hp) : Prop where
  len : ι.length = s.length
  nd : ι.Nodup
  at_ : ∀ (n : Nat) (o : O), s[n]? = some o → ∃ a, ι[n]? = some a ∧ RelO K w cl ι H o a
/-- the slots -/
structure RelE (K : PySem.W.Frag) (w : World) (cl : Str → Option Addr) (ι : List Addr) (H : Hp) (ρ : Rho) (σ : L2.St) : Prop where
  len : ρ.length = σ.length
  at_ : ∀ (i : Nat) (d : D), ρ[i]? = some (some d) → ∃ v, σ[i]? = some (some v) ∧ RelD K w cl ι H d v
theorem RelE.ext {K : PySem.W.Frag} {w : World} {cl : Str → Option Addr} {ι ι' : List Addr} {H H' : Hp} {ρ : Rho} {σ : L2.St} (x : Ext ι H ι' H') (e : RelE K w cl ι H ρ σ) : RelE K w cl ι' H' ρ σ :=
  ⟨e.len, fun i d h => let ⟨v, h1, h2⟩ := e.at_ i d h; ⟨v, h1, h2.ext x⟩⟩
theorem RelE.set {K : PySem.W.Frag} {w : World} {cl : Str → Option Addr} {ι : List Addr} {H : Hp} {ρ : Rho} {σ : L2.St} {i : Nat} {d : D} {v : V} (e : RelE K w cl ι H ρ σ) (r : RelD K w cl ι H d v) : RelE K w cl ι H (ρ.set i (some d)) (σ.set i (some v)) := by
  refine ⟨by rw [List.length_set, List.length_set]; exact e.len, fun j d' h => ?_⟩
  by_cases hij : i = j
  · subst hij
    by_cases hi : i < ρ.length
    · rw [List.getElem?_set_self hi] at h
      cases h
      exact ⟨v, List.getElem?_set_self (by rw [← e.len]; exact hi), r⟩
    · rw [List.getElem?_eq_none (by rw [List.length_set]; omega)] at h
      cases h
  · rw [List.getElem?_set_ne hij] at h ⊢
    exact e.at_ j d' h

/-! ### what an end asks -/
section
variable (K : PySem.W.Frag) (w : World) (cl : Str → Option Addr)
/-- an exception: an instance by its class and fields -/
def RelX (ι : List Addr) (H : Hp) (x : D) (c : Value) (d : Option Addr) : Prop :=
  ∃ C fs A, x = .ins C fs ∧ cl C = some A ∧ c = .ref A ∧ ∃ dd vs, d = some dd ∧ H dd = some (.xd vs) ∧ RelFs K w cl ι H fs vs
/-- the wish of exceptions: WX of the layer, told at the data's level -/
abbrev Wish := Value → Option Addr → L2.St → Hp → Prop
def PoE (W : Wish) (ι : List Addr) (H : Hp) (σ : L2.St) (Q : VK) : R D → Prop
  | .ok d s => ∀ ι' H' v, Ext ι H ι' H' → RelS K w cl ι' s H' → RelD K w cl ι' H' d v → Q v H'
  | .exc x s => ∀ ι' H' c d, Ext ι H ι' H' → RelS K w cl ι' s H' → RelX K w cl ι' H' x c d → W c d σ H'
  | .bad => False
def PoT (W : Wish) (ι : List Addr) (H : Hp) (σ : L2.St) (Q : Bool → Hp → Prop) : R Bool → Prop
  | .ok b s => ∀ ι' H', Ext ι H ι' H' → RelS K w cl ι' s H' → Q b H'
  | .exc x s => ∀ ι' H' c d, Ext ι H ι' H' → RelS K w cl ι' s H' → RelX K w cl ι' H' x c d → W c d σ H'
  | .bad => False
def PoA (W : Wish) (ι : List Addr) (H : Hp) (σ : L2.St) (Q : List V → Hp → Prop) : R (List D) → Prop
  | .ok ds s => ∀ ι' H' vs, Ext ι H ι' H' → RelS K w cl ι' s H' → RelDs K w cl ι' H' ds vs → Q vs H'
  | .exc x s => ∀ ι' H' c d, Ext ι H ι' H' → RelS K w cl ι' s H' → RelX K w cl ι' H' x c d → W c d σ H'
  | .bad => False
def PoS (W : Wish) (ι : List Addr) (H : Hp) (Dn : Ends) : RS → Prop
  | .ok (.nx ρ) s => ∀ ι' H' σ, Ext ι H ι' H' → RelS K w cl ι' s H' → RelE K w cl ι' H' ρ σ → Dn.nx σ H'
  | .ok (.bk ρ) s => ∀ ι' H' σ, Ext ι H ι' H' → RelS K w cl ι' s H' → RelE K w cl ι' H' ρ σ → Dn.bk σ H'
  | .ok (.ct ρ) s => ∀ ι' H' σ, Ext ι H ι' H' → RelS K w cl ι' s H' → RelE K w cl ι' H' ρ σ → Dn.ct σ H'
  | .ok (.rt d) s => ∀ ι' H' v, Ext ι H ι' H' → RelS K w cl ι' s H' → RelD K w cl ι' H' d v → Dn.rt v H'
  | .exc x ρ s => ∀ ι' H' σ c d, Ext ι H ι' H' → RelS K w cl ι' s H' → RelE K w cl ι' H' ρ σ → RelX K w cl ι' H' x c d → W c d σ H'
  | .bad => False
end
/-- an expression's, a test's, an argument list's, a statement's simulation -/
structure SE (X : Cx) (cl : Str → Option Addr) (W : Wish) (e : Expr) (m : ME) : Prop where
  ex : ∃ t, PE X e t ∧ ∀ σ H Q ρ ι s, RelE X.K X.w cl ι H ρ σ → RelS X.K X.w cl ι s H → PoE X.K X.w cl W ι H σ Q (m ρ s) → t σ H Q
structure SB (X : Cx) (cl : Str → Option Addr) (W : Wish) (e : Expr) (m : MT) : Prop where
  ex : ∃ t, PT X e t ∧ ∀ σ H Q ρ ι s, RelE X.K X.w cl ι H ρ σ → RelS X.K X.w cl ι s H → PoT X.K X.w cl W ι H σ Q (m ρ s) → t σ H Q
structure SA (X : Cx) (cl : Str → Option Addr) (W : Wish) (es : List Expr) (m : MA) : Prop where
  ex : ∃ t, PA X es t ∧ ∀ σ H Q ρ ι s, RelE X.K X.w cl ι H ρ σ → RelS X.K X.w cl ι s H → PoA X.K X.w cl W ι H σ Q (m ρ s) → t σ H Q
structure SS (X : Cx) (cl : Str → Option Addr) (W : Wish) (st : Stmt) (m : MS) : Prop where
  ex : ∃ t, PS X st t ∧ ∀ Dn σ H ρ ι s, RelE X.K X.w cl ι H ρ σ → RelS X.K X.w cl ι s H → PoS X.K X.w cl W ι H Dn (m ρ s) → t Dn σ H
structure SSs (X : Cx) (cl : Str → Option Addr) (W : Wish) (sts : List Stmt) (m : MS) : Prop where
  ex : ∃ t, PSs X sts t ∧ ∀ Dn σ H ρ ι s, RelE X.K X.w cl ι H ρ σ → RelS X.K X.w cl ι s H → PoS X.K X.w cl W ι H Dn (m ρ s) → t Dn σ H

/-! ### ends compose -/
section
variable {K : PySem.W.Frag} {w : World} {cl : Str → Option Addr} {W : Wish} {ι ι' : List Addr} {H H' : Hp} {σ : L2.St}
theorem PoE.mono {Q Q' : VK} {r : R D} (x : Ext ι H ι' H') (h : PoE K w cl W ι H σ Q r) (k : ∀ v H2, Q v H2 → Q' v H2) : PoE K w cl W ι' H' σ Q' r := by
  cases r with
  | ok d s => exact fun ι2 H2 v x2 rs rd => k _ _ (h ι2 H2 v (x.trans x2) rs rd)
  | exc d s => exact fun ι2 H2 c dd x2 => h ι2 H2 c dd (x.trans x2)
  | bad => exact h
theorem PoS.ext {Dn : Ends} {r : RS} (x : Ext ι H ι' H') (h : PoS K w cl W ι H Dn r) : PoS K w cl W ι' H' Dn r := by
  cases r with
  | ok c s => cases c <;> exact fun ι2 H2 v x2 => h ι2 H2 v (x.trans x2)
  | exc d ρ s => exact fun ι2 H2 σ c dd x2 => h ι2 H2 σ c dd (x.trans x2)
  | bad => exact h
/-- behind a first part -/
theorem PoE.step {Q : VK} {Q1 : VK} {r : R D} {f : D → S → R D} (h : PoE K w cl W ι H σ Q (r.bind f))
    (k : ∀ d s ι' H' v, r = .ok d s → Ext ι H ι' H' → RelS K w cl ι' s H' → RelD K w cl ι' H' d v → PoE K w cl W ι' H' σ Q (f d s) → Q1 v H') : PoE K w cl W ι H σ Q1 r := by
  cases r with
  | ok d s => exact fun ι2 H2 v x2 rs rd => k d s ι2 H2 v rfl x2 rs rd (PoE.mono x2 h fun _ _ q => q)
  | exc d s => exact h
  | bad => exact h
theorem PoE.stepA {Q : VK} {Q1 : List V → Hp → Prop} {r : R (List D)} {f : List D → S → R D} (h : PoE K w cl W ι H σ Q (r.bind f))
    (k : ∀ d s ι' H' v, r = .ok d s → Ext ι H ι' H' → RelS K w cl ι' s H' → RelDs K w cl ι' H' d v → PoE K w cl W ι' H' σ Q (f d s) → Q1 v H') : PoA K w cl W ι H σ Q1 r := by
  cases r with
  | ok d s => exact fun ι2 H2 v x2 rs rd => k d s ι2 H2 v rfl x2 rs rd (PoE.mono x2 h fun _ _ q => q)
  | exc d s => exact h
  | bad => exact h
theorem PoE.stepT {Q : VK} {Q1 : Bool → Hp → Prop} {r : R Bool} {f : Bool → S → R D} (h : PoE K w cl W ι H σ Q (r.bind f))
    (k : ∀ b s ι' H', r = .ok b s → Ext ι H ι' H' → RelS K w cl ι' s H' → PoE K w cl W ι' H' σ Q (f b s) → Q1 b H') : PoT K w cl W ι H σ Q1 r := by
  cases r with
  | ok d s => exact fun ι2 H2 x2 rs => k d s ι2 H2 rfl x2 rs (PoE.mono x2 h fun _ _ q => q)
  | exc d s => exact h
  | bad => exact h
theorem PoT.mono {Q Q' : Bool → Hp → Prop} {r : R Bool} (x : Ext ι H ι' H') (h : PoT K w cl W ι H σ Q r) (k : ∀ v H2, Q v H2 → Q' v H2) : PoT K w cl W ι' H' σ Q' r := by
  cases r with
  | ok d s => exact fun ι2 H2 x2 rs => k _ _ (h ι2 H2 (x.trans x2) rs)
  | exc d s => exact fun ι2 H2 c dd x2 => h ι2 H2 c dd (x.trans x2)
  | bad => exact h
theorem PoT.stepT {Q Q1 : Bool → Hp → Prop} {r : R Bool} {f : Bool → S → R Bool} (h : PoT K w cl W ι H σ Q (r.bind f))
    (k : ∀ b s ι' H', r = .ok b s → Ext ι H ι' H' → RelS K w cl ι' s H' → PoT K w cl W ι' H' σ Q (f b s) → Q1 b H') : PoT K w cl W ι H σ Q1 r := by
  cases r with
  | ok d s => exact fun ι2 H2 x2 rs => k d s ι2 H2 rfl x2 rs (PoT.mono x2 h fun _ _ q => q)
  | exc d s => exact h
  | bad => exact h
theorem PoT.stepE {Q : Bool → Hp → Prop} {Q1 : VK} {r : R D} {f : D → S → R Bool} (h : PoT K w cl W ι H σ Q (r.bind f))
    (k : ∀ d s ι' H' v, r = .ok d s → Ext ι H ι' H' → RelS K w cl ι' s H' → RelD K w cl ι' H' d v → PoT K w cl W ι' H' σ Q (f d s) → Q1 v H') : PoE K w cl W ι H σ Q1 r := by
  cases r with
  | ok d s => exact fun ι2 H2 v x2 rs rd => k d s ι2 H2 v rfl x2 rs rd (PoT.mono x2 h fun _ _ q => q)
  | exc d s => exact h
  | bad => exact h
theorem PoA.mono {Q Q' : List V → Hp → Prop} {r : R (List D)} (x : Ext ι H ι' H') (h : PoA K w cl W ι H σ Q r) (k : ∀ v H2, Q v H2 → Q' v H2) : PoA K w cl W ι' H' σ Q' r := by
  cases r with
  | ok d s => exact fun ι2 H2 v x2 rs rd => k _ _ (h ι2 H2 v (x.trans x2) rs rd)
  | exc d s => exact fun ι2 H2 c dd x2 => h ι2 H2 c dd (x.trans x2)
  | bad => exact h
theorem PoA.stepE {Q : List V → Hp → Prop} {Q1 : VK} {r : R D} {f : D → S → R (List D)} (h : PoA K w cl W ι H σ Q (r.bind f))
    (k : ∀ d s ι' H' v, r = .ok d s → Ext ι H ι' H' → RelS K w cl ι' s H' → RelD K w cl ι' H' d v → PoA K w cl W ι' H' σ Q (f d s) → Q1 v H') : PoE K w cl W ι H σ Q1 r := by
  cases r with
  | ok d s => exact fun ι2 H2 v x2 rs rd => k d s ι2 H2 v rfl x2 rs rd (PoA.mono x2 h fun _ _ q => q)
  | exc d s => exact h
  | bad => exact h
theorem PoA.stepA {Q : List V → Hp → Prop} {Q1 : List V → Hp → Prop} {r : R (List D)} {f : List D → S → R (List D)} (h : PoA K w cl W ι H σ Q (r.bind f))
    (k : ∀ d s ι' H' v, r = .ok d s → Ext ι H ι' H' → RelS K w cl ι' s H' → RelDs K w cl ι' H' d v → PoA K w cl W ι' H' σ Q (f d s) → Q1 v H') : PoA K w cl W ι H σ Q1 r := by
  cases r with
  | ok d s => exact fun ι2 H2 v x2 rs rd => k d s ι2 H2 v rfl x2 rs rd (PoA.mono x2 h fun _ _ q => q)
  | exc d s => exact h
  | bad => exact h
variable {Dn : Ends} {ρ : Rho}
theorem PoS.stepE {Q1 : VK} {r : R D} {f : D → S → RS} (e : RelE K w cl ι H ρ σ) (h : PoS K w cl W ι H Dn (r.st ρ f))
    (k : ∀ d s ι' H' v, r = .ok d s → Ext ι H ι' H' → RelS K w cl ι' s H' → RelD K w cl ι' H' d v → PoS K w cl W ι' H' Dn (f d s) → Q1 v H') : PoE K w cl W ι H σ Q1 r := by
  cases r with
  | ok d s => exact fun ι2 H2 v x2 rs rd => k d s ι2 H2 v rfl x2 rs rd (PoS.ext x2 h)
  | exc d s => exact fun ι2 H2 c dd x2 rs rx => h ι2 H2 σ c dd x2 rs (e.ext x2) rx
  | bad => exact h
theorem PoS.stepT {Q1 : Bool → Hp → Prop} {r : R Bool} {f : Bool → S → RS} (e : RelE K w cl ι H ρ σ) (h : PoS K w cl W ι H Dn (r.st ρ f))
    (k : ∀ b s ι' H', r = .ok b s → Ext ι H ι' H' → RelS K w cl ι' s H' → PoS K w cl W ι' H' Dn (f b s) → Q1 b H') : PoT K w cl W ι H σ Q1 r := by
  cases r with
  | ok d s => exact fun ι2 H2 x2 rs => k d s ι2 H2 rfl x2 rs (PoS.ext x2 h)
  | exc d s => exact fun ι2 H2 c dd x2 rs rx => h ι2 H2 σ c dd x2 rs (e.ext x2) rx
  | bad => exact h
theorem PoS.stepA {Q1 : List V → Hp → Prop} {r : R (List D)} {f : List D → S → RS} (e : RelE K w cl ι H ρ σ) (h : PoS K w cl W ι H Dn (r.st ρ f))
    (k : ∀ d s ι' H' v, r = .ok d s → Ext ι H ι' H' → RelS K w cl ι' s H' → RelDs K w cl ι' H' d v → PoS K w cl W ι' H' Dn (f d s) → Q1 v H') : PoA K w cl W ι H σ Q1 r := by
  cases r with
  | ok d s => exact fun ι2 H2 v x2 rs rd => k d s ι2 H2 v rfl x2 rs rd (PoS.ext x2 h)
  | exc d s => exact fun ι2 H2 c dd x2 rs rx => h ι2 H2 σ c dd x2 rs (e.ext x2) rx
  | bad => exact h
end
end Pm
namespace Pm
open PySem PySem.Spec PyProof.Rows L2

/-! ### expressions -/
def mVar (i : Nat) : ME := fun ρ s => match ρ[i]? with
  | some (some d) => .ok d s
  | _ => .bad
def mC (d : D) : ME := fun _ s => .ok d s
def m1 (f : D → S → R D) (a : ME) : ME := fun ρ s => (a ρ s).bind f
def m2 (f : D → D → S → R D) (a b : ME) : ME := fun ρ s => (a ρ s).bind fun x s1 => (b ρ s1).bind fun y s2 => f x y s2
def aNil : MA := fun _ s => .ok [] s
def aCons (a : ME) (r : MA) : MA := fun ρ s => (a ρ s).bind fun x s1 => (r ρ s1).bind fun xs s2 => .ok (x :: xs) s2
def mN (f : List D → S → R D) (a : MA) : ME := fun ρ s => (a ρ s).bind f
/-- a built-in type's method: the object, then the arguments -/
def mM (f : D → List D → S → R D) (a : ME) (as : MA) : ME := fun ρ s => (a ρ s).bind fun x s1 => (as ρ s1).bind fun xs s2 => f x xs s2
def mIf (c : MT) (a b : ME) : ME := fun ρ s => (c ρ s).bind fun k s1 => if k = true then a ρ s1 else b ρ s1
def tTru (f : D → S → Option Bool) (a : ME) : MT := fun ρ s => (a ρ s).bind fun d s1 => match f d s1 with
  | some b => .ok b s1
  | none => .bad
def tAnd2 (a b : MT) : MT := fun ρ s => (a ρ s).bind fun k s1 => if k = true then b ρ s1 else .ok false s1
def tOr2 (a b : MT) : MT := fun ρ s => (a ρ s).bind fun k s1 => if k = true then .ok true s1 else b ρ s1
def tNot1 (a : MT) : MT := fun ρ s => (a ρ s).bind fun k s1 => .ok (!k) s1
/-- a value that is a bool, as a test -/
def tBool (a : ME) : MT := fun ρ s => (a ρ s).bind fun d s1 => match d with
  | .bl b => .ok b s1
  | _ => .bad
/-- and, or, not as values over bools -/
def mAnd (a b : ME) : ME := fun ρ s => (a ρ s).bind fun d s1 => match d with
  | .bl true => b ρ s1
  | .bl false => .ok (.bl false) s1
  | _ => .bad
def mOr (a b : ME) : ME := fun ρ s => (a ρ s).bind fun d s1 => match d with
  | .bl true => .ok (.bl true) s1
  | .bl false => b ρ s1
  | _ => .bad
def mNot (a : ME) : ME := fun ρ s => (a ρ s).bind fun d s1 => match d with
  | .bl b => .ok (.bl (!b)) s1
  | _ => .bad
/-- a < b < c -/
def mChain (f g : D → D → S → R D) (a b c : ME) : ME := fun ρ s => (a ρ s).bind fun x s1 => (b ρ s1).bind fun y s2 => (f x y s2).bind fun k s3 => match k with
  | .bl true => (c ρ s3).bind fun z s4 => g y z s4
  | .bl false => .ok (.bl false) s3
  | _ => .bad

/-! ### rules by values: any rule of the layer will do -/
section
variable {X : Cx} {cl : Str → Option Addr} {W : Wish}
def AnyOp (X : Cx) (f : Value → Value → Sem Value) : R2 := fun x y H Q => ∃ r, OpR X f r ∧ r x y H Q
theorem anyOp {f : Value → Value → Sem Value} : OpR X f (AnyOp X f) := fun pins s σ H x y v u Q I rx ry ⟨r, h, q⟩ => h pins s σ H x y v u Q I rx ry q
def AnyUn (X : Cx) (f : Value → Sem Value) : V → Hp → VK → Prop := fun x H Q => ∃ r, UnR X f r ∧ r x H Q
theorem anyUn {f : Value → Sem Value} : UnR X f (AnyUn X f) := fun pins s σ H x v Q I rx ⟨r, h, q⟩ => h pins s σ H x v Q I rx q
def AnyCall (X : Cx) (f : Value) : List V → Hp → VK → Prop := fun xs H Q => ∃ r, CallR X f r ∧ r xs H Q
theorem anyCall {f : Value} : CallR X f (AnyCall X f) := fun pins s σ H xs us Q I rx ⟨r, h, q⟩ => h pins s σ H xs us Q I rx q
def AnyIx (X : Cx) : R2 := fun x y H Q => ∃ r, IxR X r ∧ r x y H Q
theorem anyIx : IxR X (AnyIx X) := fun a b pins s σ H x y v u Q I rx ry ⟨r, h, q⟩ => h a b pins s σ H x y v u Q I rx ry q
def AnyMt (X : Cx) (id : String) : V → List V → Hp → VK → Prop := fun x xs H Q => ∃ r, MtR X id r ∧ r x xs H Q
theorem anyMt {id : String} : MtR X id (AnyMt X id) := fun pins s σ H x xs v us Q I rx rxs ⟨r, h, q⟩ => h pins s σ H x xs v us Q I rx rxs q
def OpD (X : Cx) (cl : Str → Option Addr) (f : Value → Value → Sem Value) (g : D → D → S → R D) : Prop :=
  ∀ (W : Wish) (ι : List Addr) (H : Hp) (σ : L2.St) (Q : VK) (s : S) (dx dy : D) (x y : V), RelS X.K X.w cl ι s H → RelD X.K X.w cl ι H dx x → RelD X.K X.w cl ι H dy y → PoE X.K X.w cl W ι H σ Q (g dx dy s) → AnyOp X f x y H Q
def UnD (X : Cx) (cl : Str → Option Addr) (f : Value → Sem Value) (g : D → S → R D) : Prop :=
  ∀ (W : Wish) (ι : List Addr) (H : Hp) (σ : L2.St) (Q : VK) (s : S) (dx : D) (x : V), RelS X.K X.w cl ι s H → RelD X.K X.w cl ι H dx x → PoE X.K X.w cl W ι H σ Q (g dx s) → AnyUn X f x H Q
def CallD (X : Cx) (cl : Str → Option Addr) (f : Value) (g : List D → S → R D) : Prop :=
  ∀ (W : Wish) (ι : List Addr) (H : Hp) (σ : L2.St) (Q : VK) (s : S) (ds : List D) (xs : List V), RelS X.K X.w cl ι s H → RelDs X.K X.w cl ι H ds xs → PoE X.K X.w cl W ι H σ Q (g ds s) → AnyCall X f xs H Q
def IxD (X : Cx) (cl : Str → Option Addr) (g : D → D → S → R D) : Prop :=
  ∀ (W : Wish) (ι : List Addr) (H : Hp) (σ : L2.St) (Q : VK) (s : S) (dx dy : D) (x y : V), RelS X.K X.w cl ι s H → RelD X.K X.w cl ι H dx x → RelD X.K X.w cl ι H dy y → PoE X.K X.w cl W ι H σ Q (g dx dy s) → AnyIx X x y H Q

theorem se_var {x : Str} {pos : Pos} (i : Nat) (hN : X.N[i]? = some x := by rfl) (hv : Vis X.env.scope x := by first | exact Or.inl rfl | exact Or.inr (Or.inl rfl) | exact Or.inr (Or.inr rfl)) (hd : (x == ("__debug__" : Str)) = false := by decide)
    (hcd : (x == ("__classdict__" : Str)) = false := by decide) : SE X cl W (.Name x pos) (mVar i) := by
  refine ⟨_, pe_var hN hv hd hcd, fun σ H Q ρ ι s e r h => ?_⟩
  unfold mVar at h
  split at h
  · rename_i d hd'
    obtain ⟨v, hv', rd⟩ := e.at_ i d hd'
    exact ⟨v, hv', h ι H v (Ext.refl _ _) r rd⟩
  · exact False.elim h
theorem se_con {e : Expr} {d : D} {v : V} (h : PE X e (tC v)) (r : ∀ ι H, RelD X.K X.w cl ι H d v) : SE X cl W e (mC d) :=
  ⟨_, h, fun σ H Q ρ ι s _ rs q => q ι H v (Ext.refl _ _) rs (r ι H)⟩
theorem se_int {i j pos} : SE X cl W (.Constant (.int i) j pos) (mC (.int i)) := se_con pe_int fun _ _ => .int i
theorem se_bl {b j pos} : SE X cl W (.Constant (.bool b) j pos) (mC (.bl b)) := se_con pe_bl fun _ _ => .bl b
theorem se_non {j pos} : SE X cl W (.Constant .none j pos) (mC .non) := se_con pe_non fun _ _ => .non
theorem se_str {x j pos} : SE X cl W (.Constant (.str x) j pos) (mC (.str x)) := se_con pe_str fun _ _ => .str x
theorem se_glob {x : Str} {d : D} {v : V} {u : Value} {pos : Pos} (hg : Gl X x) (hm : X.mg x = some u) (rv : RelV v u) (r : ∀ ι H, RelD X.K X.w cl ι H d v) (hd : (x == ("__debug__" : Str)) = false := by decide) : SE X cl W (.Name x pos) (mC d) :=
  se_con (pe_glob hg hm rv hd) r
variable {a b c : Expr} {ma mb mc : ME} {pos : Pos}
theorem se_op {op : Operator} {g : D → D → S → R D} (ho : OpD X cl (binaryOp op) g) (ha : SE X cl W a ma) (hb : SE X cl W b mb) : SE X cl W (.BinOp a op b pos) (m2 g ma mb) := by
  obtain ⟨ta, pa, qa⟩ := ha.ex
  obtain ⟨tb, pb, qb⟩ := hb.ex
  refine ⟨_, pe_op anyOp pa pb, fun σ H Q ρ ι s e r h => ?_⟩
  refine qa σ H _ ρ ι s e r (PoE.step h fun d s1 ι1 H1 v e1 x1 r1 d1 h1 => ?_)
  refine qb σ H1 _ ρ ι1 s1 (e.ext x1) r1 (PoE.step h1 fun d2 s2 ι2 H2 v2 e2 x2 r2 dd2 h2 => ?_)
  exact ho W ι2 H2 σ Q s2 d d2 v v2 r2 (d1.ext x2) dd2 h2
theorem se_un {op : UnaryOp} {g : D → S → R D} (ho : UnD X cl (unaryOp op) g) (ha : SE X cl W a ma) : SE X cl W (.UnaryOp op a pos) (m1 g ma) := by
  obtain ⟨ta, pa, qa⟩ := ha.ex
  refine ⟨_, pe_un anyUn pa, fun σ H Q ρ ι s e r h => ?_⟩
  refine qa σ H _ ρ ι s e r (PoE.step h fun d s1 ι1 H1 v e1 x1 r1 d1 h1 => ?_)
  exact ho W ι1 H1 σ Q s1 d v r1 d1 h1
theorem se_cmp {op : CmpOp} {g : D → D → S → R D} (ho : OpD X cl (compareOp op) g) (ha : SE X cl W a ma) (hb : SE X cl W b mb) (hm : behindInMarks op b = false := by first | exact nomark _ | rfl) : SE X cl W (.Compare a [op] [b] pos) (m2 g ma mb) := by
  obtain ⟨ta, pa, qa⟩ := ha.ex
  obtain ⟨tb, pb, qb⟩ := hb.ex
  refine ⟨_, pe_cmpR anyOp pa pb hm, fun σ H Q ρ ι s e r h => ?_⟩
  refine qa σ H _ ρ ι s e r (PoE.step h fun d s1 ι1 H1 v e1 x1 r1 d1 h1 => ?_)
  refine qb σ H1 _ ρ ι1 s1 (e.ext x1) r1 (PoE.step h1 fun d2 s2 ι2 H2 v2 e2 x2 r2 dd2 h2 => ?_)
  exact ho W ι2 H2 σ Q s2 d d2 v v2 r2 (d1.ext x2) dd2 h2
theorem sb_cmp {op : CmpOp} {g : D → D → S → R D} (ho : OpD X cl (compareOp op) g) (ha : SE X cl W a ma) (hb : SE X cl W b mb) (hm : behindInMarks op b = false := by first | exact nomark _ | rfl) : SB X cl W (.Compare a [op] [b] pos) (tBool (m2 g ma mb)) := by
  obtain ⟨ta, pa, qa⟩ := ha.ex
  obtain ⟨tb, pb, qb⟩ := hb.ex
  refine ⟨_, pt_cmpR anyOp pa pb hm, fun σ H Q ρ ι s e r h => ?_⟩
  unfold tBool m2 at h
  have h' : PoT X.K X.w cl W ι H σ Q ((ma ρ s).bind fun x s1 => (mb ρ s1).bind fun y s2 => (g x y s2).bind fun d s3 => match d with | .bl b => .ok b s3 | _ => .bad) := by
    cases e1 : ma ρ s <;> simp only [e1, R.bind] at h ⊢ <;> try exact h
    rename_i d1 s1
    cases e2 : mb ρ s1 <;> simp only [e2, R.bind] at h ⊢ <;> exact h
  refine qa σ H _ ρ ι s e r (PoT.stepE h' fun d s1 ι1 H1 v e1 x1 r1 d1 h1 => ?_)
  refine qb σ H1 _ ρ ι1 s1 (e.ext x1) r1 (PoT.stepE h1 fun d2 s2 ι2 H2 v2 e2 x2 r2 dd2 h2 => ?_)
  refine ho W ι2 H2 σ _ s2 d d2 v v2 r2 (d1.ext x2) dd2 (PoT.stepE h2 fun d3 s3 ι3 H3 v3 e3 x3 r3 dd3 h3 => ?_)
  cases dd3 <;> first
    | exact ⟨_, rfl, h3 ι3 H3 (Ext.refl _ _) r3⟩
    | exact False.elim h3
/-- any expression whose value is a bool, as a test -/
theorem sb_val (ha : SE X cl W a ma) (he : ∀ whole, isTrue a X.env whole = (do let v ← whole; standAt a.pos; holding [v] (truthy v)) := by intro _; rfl) : SB X cl W a (tBool ma) := by
  obtain ⟨ta, pa, qa⟩ := ha.ex
  refine ⟨_, pt_truth pa he, fun σ H Q ρ ι s e r h => ?_⟩
  refine qa σ H _ ρ ι s e r (PoT.stepE h fun d3 s3 ι3 H3 v3 e3 x3 r3 dd3 h3 => ?_)
  cases dd3 <;> first
    | exact ⟨_, rfl, h3 ι3 H3 (Ext.refl _ _) r3⟩
    | exact False.elim h3
/-- a value's truth -/
def dTru : D → S → Option Bool
  | .non, _ => some false
  | .bl b, _ => some b
  | .int i, _ => some (i != 0)
  | .str x, _ => if x.length ≤ sizeLine then some ((x.length : Int) != 0) else none
  | .tup xs, _ => some (!xs.isEmpty)
  | .lst xs, _ => some (!xs.isEmpty)
  | .ref n, s => match s[n]? with
    | some (.lst xs) => some (!xs.isEmpty)
    | _ => none
  | _, _ => none
theorem RelDs.length {K : PySem.W.Frag} {w : World} {ι : List Addr} {H : Hp} : ∀ {ds : List D} {vs : List V}, RelDs K w cl ι H ds vs → ds.length = vs.length
  | _, _, .nil => rfl
  | _, _, .cons _ t => congrArg (· + 1) (RelDs.length t)
theorem RelDs.isEmpty {K : PySem.W.Frag} {w : World} {ι : List Addr} {H : Hp} {ds : List D} {vs : List V} : RelDs K w cl ι H ds vs → ds.isEmpty = vs.isEmpty
  | .nil => rfl
  | .cons _ _ => rfl
theorem dTru_ok {K : PySem.W.Frag} {w : World} {ι : List Addr} {H : Hp} {s : S} {d : D} {v : V} {b : Bool} (rs : RelS K w cl ι s H) (r : RelD K w cl ι H d v) (h : dTru d s = some b) : TruV K v H b := by
  cases r <;> simp only [dTru] at h
  · exact (Option.some.inj h).symm
  · exact (Option.some.inj h).symm
  · exact (Option.some.inj h).symm
  · split at h
    · exact ⟨by assumption, (Option.some.inj h).symm⟩
    · cases h
  · rename_i h1 r1
    exact .inr (.inl ⟨_, h1.sq, by rw [← r1.isEmpty]; exact (Option.some.inj h).symm⟩)
  · rename_i h1 r1
    exact .inl ⟨_, h1.sq, by rw [← r1.isEmpty]; exact (Option.some.inj h).symm⟩
  · rename_i n a h1
    split at h
    · rename_i xs e
      obtain ⟨a', ea, vs, ha, r1⟩ := rs.at_ n _ e
      rw [h1] at ea
      cases ea
      exact .inl ⟨_, SqL.of ha, by rw [← r1.isEmpty]; exact (Option.some.inj h).symm⟩
    · cases h
  all_goals cases h
theorem sb_tru (ha : SE X cl W a ma) (he : ∀ whole, isTrue a X.env whole = (do let v ← whole; standAt a.pos; holding [v] (truthy v)) := by intro _; rfl) : SB X cl W a (tTru dTru ma) := by
  obtain ⟨ta, pa, qa⟩ := ha.ex
  refine ⟨_, pt_truth pa he, fun σ H Q ρ ι s e r h => ?_⟩
  refine qa σ H _ ρ ι s e r (PoT.stepE h fun d3 s3 ι3 H3 v3 e3 x3 r3 dd3 h3 => ?_)
  split at h3
  · rename_i b eb
    exact ⟨b, dTru_ok r3 dd3 eb, h3 ι3 H3 (Ext.refl _ _) r3⟩
  · exact False.elim h3
variable {ta tb : MT}
theorem sb_not (ha : SB X cl W a ta) : SB X cl W (.UnaryOp .Not a pos) (tNot1 ta) := by
  obtain ⟨t, pa, qa⟩ := ha.ex
  refine ⟨_, pt_not pa, fun σ H Q ρ ι s e r h => ?_⟩
  exact qa σ H _ ρ ι s e r (PoT.stepT h fun k s1 ι1 H1 e1 x1 r1 h1 => h1 ι1 H1 (Ext.refl _ _) r1)
/-- a test whatever its 'whole' is -/
structure SW (X : Cx) (cl : Str → Option Addr) (W : Wish) (e : Expr) (m : MT) : Prop where
  ex : ∃ t, PW X e t ∧ ∀ σ H Q ρ ι s, RelE X.K X.w cl ι H ρ σ → RelS X.K X.w cl ι s H → PoT X.K X.w cl W ι H σ Q (m ρ s) → t σ H Q
theorem sw_and1 (ha : SB X cl W a ta) : SW X cl W (.BoolOp .And [a] pos) ta := by
  obtain ⟨t, pa, qa⟩ := ha.ex
  exact ⟨_, pw_and1 pa, qa⟩
theorem sw_or1 (ha : SB X cl W a ta) : SW X cl W (.BoolOp .Or [a] pos) ta := by
  obtain ⟨t, pa, qa⟩ := ha.ex
  exact ⟨_, pw_or1 pa, qa⟩
variable {rest : List Expr}
theorem sw_and (ha : SB X cl W a ta) (hb : SW X cl W (.BoolOp .And (b :: rest) pos) tb) : SW X cl W (.BoolOp .And (a :: b :: rest) pos) (tAnd2 ta tb) := by
  obtain ⟨t, pa, qa⟩ := ha.ex
  obtain ⟨u, pb, qb⟩ := hb.ex
  refine ⟨_, pw_and pa pb, fun σ H Q ρ ι s e r h => ?_⟩
  refine qa σ H _ ρ ι s e r (PoT.stepT h fun k s1 ι1 H1 e1 x1 r1 h1 => ?_)
  cases k with
  | true => exact qb σ H1 _ ρ ι1 s1 (e.ext x1) r1 h1
  | false => exact h1 ι1 H1 (Ext.refl _ _) r1
theorem sw_or (ha : SB X cl W a ta) (hb : SW X cl W (.BoolOp .Or (b :: rest) pos) tb) : SW X cl W (.BoolOp .Or (a :: b :: rest) pos) (tOr2 ta tb) := by
  obtain ⟨t, pa, qa⟩ := ha.ex
  obtain ⟨u, pb, qb⟩ := hb.ex
  refine ⟨_, pw_or pa pb, fun σ H Q ρ ι s e r h => ?_⟩
  refine qa σ H _ ρ ι s e r (PoT.stepT h fun k s1 ι1 H1 e1 x1 r1 h1 => ?_)
  cases k with
  | true => exact h1 ι1 H1 (Ext.refl _ _) r1
  | false => exact qb σ H1 _ ρ ι1 s1 (e.ext x1) r1 h1
theorem sb_bool (h : SW X cl W a ta) : SB X cl W a ta := by
  obtain ⟨t, pa, qa⟩ := h.ex
  exact ⟨_, pa.pt, qa⟩
theorem se_if {c : Expr} {tc : MT} (hc : SB X cl W c tc) (ha : SE X cl W a ma) (hb : SE X cl W b mb) : SE X cl W (.IfExp c a b pos) (mIf tc ma mb) := by
  obtain ⟨t, pc, qc⟩ := hc.ex
  obtain ⟨ta, pa, qa⟩ := ha.ex
  obtain ⟨tb, pb, qb⟩ := hb.ex
  refine ⟨_, pe_ifExp pc pa pb, fun σ H Q ρ ι s e r h => ?_⟩
  refine qc σ H _ ρ ι s e r (PoE.stepT h fun k s1 ι1 H1 e1 x1 r1 h1 => ?_)
  cases k with
  | true => exact qa σ H1 _ ρ ι1 s1 (e.ext x1) r1 h1
  | false => exact qb σ H1 _ ρ ι1 s1 (e.ext x1) r1 h1
theorem se_one {op} (h : SE X cl W a ma) : SE X cl W (.BoolOp op [a] pos) ma := by
  obtain ⟨ta, pa, qa⟩ := h.ex
  exact ⟨_, pe_one pa, qa⟩
theorem se_and (ha : SE X cl W a ma) (hb : SE X cl W (.BoolOp .And (b :: rest) pos) mb) : SE X cl W (.BoolOp .And (a :: b :: rest) pos) (mAnd ma mb) := by
  obtain ⟨ta, pa, qa⟩ := ha.ex
  obtain ⟨tb, pb, qb⟩ := hb.ex
  refine ⟨_, pe_and pa pb, fun σ H Q ρ ι s e r h => ?_⟩
  refine qa σ H _ ρ ι s e r (PoE.step h fun d s1 ι1 H1 v e1 x1 r1 d1 h1 => ?_)
  cases d1 <;> first
    | (rename_i k
       cases k with
       | true => exact ⟨true, rfl, qb σ H1 _ ρ ι1 s1 (e.ext x1) r1 h1⟩
       | false => exact ⟨false, rfl, h1 ι1 H1 _ (Ext.refl _ _) r1 (.bl _)⟩)
    | exact False.elim h1
theorem se_or (ha : SE X cl W a ma) (hb : SE X cl W (.BoolOp .Or (b :: rest) pos) mb) : SE X cl W (.BoolOp .Or (a :: b :: rest) pos) (mOr ma mb) := by
  obtain ⟨ta, pa, qa⟩ := ha.ex
  obtain ⟨tb, pb, qb⟩ := hb.ex
  refine ⟨_, pe_or pa pb, fun σ H Q ρ ι s e r h => ?_⟩
  refine qa σ H _ ρ ι s e r (PoE.step h fun d s1 ι1 H1 v e1 x1 r1 d1 h1 => ?_)
  cases d1 <;> first
    | (rename_i k
       cases k with
       | true => exact ⟨true, rfl, h1 ι1 H1 _ (Ext.refl _ _) r1 (.bl _)⟩
       | false => exact ⟨false, rfl, qb σ H1 _ ρ ι1 s1 (e.ext x1) r1 h1⟩)
    | exact False.elim h1
theorem se_not (ha : SE X cl W a ma) : SE X cl W (.UnaryOp .Not a pos) (mNot ma) := by
  obtain ⟨ta, pa, qa⟩ := ha.ex
  refine ⟨_, pe_not pa, fun σ H Q ρ ι s e r h => ?_⟩
  refine qa σ H _ ρ ι s e r (PoE.step h fun d s1 ι1 H1 v e1 x1 r1 d1 h1 => ?_)
  cases d1 <;> first
    | exact ⟨_, rfl, h1 ι1 H1 _ (Ext.refl _ _) r1 (.bl _)⟩
    | exact False.elim h1
theorem se_chain {op op' : CmpOp} {f g : D → D → S → R D} (ho : OpD X cl (compareOp op) f) (ho' : OpD X cl (compareOp op') g) (ha : SE X cl W a ma) (hb : SE X cl W b mb) (hc : SE X cl W c mc)
    (hm : lastMarks [op, op'] [b, c] = false := by with_unfolding_all rfl) : SE X cl W (.Compare a [op, op'] [b, c] pos) (mChain f g ma mb mc) := by
  obtain ⟨ta, pa, qa⟩ := ha.ex
  obtain ⟨tb, pb, qb⟩ := hb.ex
  obtain ⟨tc, pc, qc⟩ := hc.ex
  refine ⟨_, pe_chain anyOp anyOp pa pb pc hm, fun σ H Q ρ ι s e r h => ?_⟩
  refine qa σ H _ ρ ι s e r (PoE.step h fun d s1 ι1 H1 v e1 x1 r1 d1 h1 => ?_)
  refine qb σ H1 _ ρ ι1 s1 (e.ext x1) r1 (PoE.step h1 fun d2 s2 ι2 H2 v2 e2 x2 r2 dd2 h2 => ?_)
  refine ho W ι2 H2 σ _ s2 d d2 v v2 r2 (d1.ext x2) dd2 (PoE.step h2 fun d3 s3 ι3 H3 v3 e3 x3 r3 dd3 h3 => ?_)
  cases dd3 <;> first
    | (rename_i k
       cases k with
       | true =>
         refine ⟨true, rfl, ?_⟩
         refine qc σ H3 _ ρ ι3 s3 (((e.ext x1).ext x2).ext x3) r3 (PoE.step h3 fun d4 s4 ι4 H4 v4 e4 x4 r4 dd4 h4 => ?_)
         exact ho' W ι4 H4 σ Q s4 d2 d4 v2 v4 r4 ((dd2.ext x3).ext x4) dd4 h4
       | false => exact ⟨false, rfl, h3 ι3 H3 _ (Ext.refl _ _) r3 (.bl _)⟩)
    | exact False.elim h3
end
end Pm
namespace Pm
open PySem PySem.Spec PyProof.Rows L2

/-! ### sequences -/
def lview (s : S) : D → Option (List D)
  | .lst xs => some xs
  | .ref n => match s[n]? with
    | some (.lst xs) => some xs
    | _ => none
  | _ => none
section
variable {X : Cx} {cl : Str → Option Addr} {W : Wish} {K : PySem.W.Frag} {w : World} {ι : List Addr} {H : Hp} {s : S}
theorem lview_at {d : D} {xs : List D} {v : V} (rs : RelS K w cl ι s H) (r : RelD K w cl ι H d v) (h : lview s d = some xs) : ∃ a vs, v = .ref a ∧ LsQ K H a vs ∧ RelDs K w cl ι H xs vs := by
  cases r <;> simp only [lview] at h <;> try cases h
  · rename_i h1 r1
    exact ⟨_, _, rfl, h1.ls, r1⟩
  · rename_i n a h1
    split at h
    · rename_i ys e
      cases h
      obtain ⟨a', ea, vs, ha, r1⟩ := rs.at_ n _ e
      rw [h1] at ea
      cases ea
      exact ⟨_, _, rfl, .inl (.inl ha), r1⟩
    · cases h
theorem RelDs.append {xs ys : List D} {vs us : List V} : RelDs K w cl ι H xs vs → RelDs K w cl ι H ys us → RelDs K w cl ι H (xs ++ ys) (vs ++ us)
  | .nil, q => q
  | .cons r t, q => .cons r (RelDs.append t q)
theorem RelDs.get : ∀ {xs : List D} {vs : List V} {i : Nat} {d : D}, RelDs K w cl ι H xs vs → xs[i]? = some d → ∃ v, vs[i]? = some v ∧ RelD K w cl ι H d v
  | _, _, _, _, .nil, e => by simp at e
  | _, _, 0, _, .cons r _, e => by simp at e; subst e; exact ⟨_, rfl, r⟩
  | _, _, i + 1, d, .cons _ t, e => by
    obtain ⟨u, h1, h2⟩ := RelDs.get (i := i) (d := d) t (by simpa using e)
    exact ⟨u, by simpa using h1, h2⟩
theorem RelDs.set {d : D} {v : V} (r : RelD K w cl ι H d v) : ∀ {xs : List D} {vs : List V} (i : Nat), RelDs K w cl ι H xs vs → RelDs K w cl ι H (xs.set i d) (vs.set i v)
  | _, _, _, .nil => .nil
  | _, _, 0, .cons _ t => .cons r t
  | _, _, i + 1, .cons q t => .cons q (RelDs.set r i t)
theorem RelDs.take : ∀ {xs : List D} {vs : List V} (n : Nat), RelDs K w cl ι H xs vs → RelDs K w cl ι H (xs.take n) (vs.take n)
  | _, _, 0, _ => .nil
  | _, _, _ + 1, .nil => .nil
  | _, _, n + 1, .cons r t => .cons r (RelDs.take n t)
theorem RelDs.drop : ∀ {xs : List D} {vs : List V} (n : Nat), RelDs K w cl ι H xs vs → RelDs K w cl ι H (xs.drop n) (vs.drop n)
  | _, _, 0, r => r
  | _, _, _ + 1, .nil => .nil
  | _, _, n + 1, .cons _ t => RelDs.drop n t
theorem RelDs.reverse {xs : List D} {vs : List V} (h : RelDs K w cl ι H xs vs) : RelDs K w cl ι H xs.reverse vs.reverse := by
  induction xs generalizing vs with
  | nil => cases h; exact .nil
  | cons d ds ih =>
    cases h with
    | cons r t =>
      rw [List.reverse_cons, List.reverse_cons]
      exact (ih t).append (.cons r .nil)
theorem RelDs.dropLast : ∀ {xs : List D} {vs : List V}, RelDs K w cl ι H xs vs → RelDs K w cl ι H xs.dropLast vs.dropLast
  | _, _, .nil => .nil
  | _, _, .cons _ .nil => .nil
  | _, _, .cons r (.cons q t) => .cons r (RelDs.dropLast (.cons q t))
theorem RelDs.rep {xs : List D} {vs : List V} (h : RelDs K w cl ι H xs vs) : ∀ k : Nat, RelDs K w cl ι H (List.replicate k xs).flatten (List.replicate k vs).flatten
  | 0 => .nil
  | k + 1 => by
    rw [List.replicate_succ, List.replicate_succ, List.flatten_cons, List.flatten_cons]
    exact h.append (RelDs.rep h k)
theorem RelDs.one {d : D} {vs : List V} (h : RelDs K w cl ι H [d] vs) : ∃ v, vs = [v] ∧ RelD K w cl ι H d v := by
  cases h with
  | cons r t => cases t; exact ⟨_, rfl, r⟩
theorem RelDs.two {d e : D} {vs : List V} (h : RelDs K w cl ι H [d, e] vs) : ∃ v u, vs = [v, u] ∧ RelD K w cl ι H d v ∧ RelD K w cl ι H e u := by
  cases h with
  | cons r t => cases t with
    | cons q t2 => cases t2; exact ⟨_, _, rfl, r, q⟩
theorem RelDs.zero {vs : List V} (h : RelDs K w cl ι H [] vs) : vs = [] := by
  cases h; rfl
/-- a new list, tuple that the store does not know -/
theorem new_lst {xs : List D} {vs : List V} {p : Addr} (rs : RelS K w cl ι s H) (r : RelDs K w cl ι H xs vs) (hp : H p = none) : Ext ι H ι (upd H p (.lst vs)) ∧ RelS K w cl ι s (upd H p (.lst vs)) ∧ RelD K w cl ι (upd H p (.lst vs)) (.lst xs) (.ref p) := by
  have x : Ext ι H ι (upd H p (.lst vs)) := Ext.new hp
  have np : p ∉ ι := fun m => by
    obtain ⟨n, hn⟩ := List.getElem?_of_mem m
    have hlt : n < s.length := by rw [← rs.len]; exact (List.getElem?_eq_some_iff.mp hn).1
    obtain ⟨a, ea, ro⟩ := rs.at_ n s[n] (List.getElem?_eq_getElem hlt)
    rw [hn] at ea
    cases ea
    cases e : s[n] <;> rw [e] at ro
    · obtain ⟨vs, h1, _⟩ := ro; rw [hp] at h1; cases h1
    · obtain ⟨_, _, _, _, _, h1, _⟩ := ro; rw [hp] at h1; cases h1
  refine ⟨x, ⟨rs.len, rs.nd, fun n o e => ?_⟩, .lst (.inl ⟨.inl upd_same, np⟩) (r.ext x)⟩
  obtain ⟨a, ea, ro⟩ := rs.at_ n o e
  refine ⟨a, ea, ?_⟩
  have na : a ≠ p := fun z => np (by rw [← z]; exact List.mem_of_getElem? ea)
  cases o with
  | lst ds => obtain ⟨us, h1, h2⟩ := ro; exact ⟨us, by rw [upd_ne na]; exact h1, h2.ext x⟩
  | ins c fs => obtain ⟨A, dx, us, hc, hk, h1, h2⟩ := ro; exact ⟨A, dx, us, hc, hk, by rw [upd_ne na]; exact h1, h2.ext x⟩
theorem RelS.notin {p : Addr} (rs : RelS K w cl ι s H) (hp : H p = none) : p ∉ ι := fun m => by
  obtain ⟨n, hn⟩ := List.getElem?_of_mem m
  have hlt : n < s.length := by rw [← rs.len]; exact (List.getElem?_eq_some_iff.mp hn).1
  obtain ⟨a, ea, ro⟩ := rs.at_ n s[n] (List.getElem?_eq_getElem hlt)
  rw [hn] at ea
  cases ea
  cases e : s[n] <;> rw [e] at ro
  · obtain ⟨vs, h1, _⟩ := ro; rw [hp] at h1; cases h1
  · obtain ⟨_, _, _, _, _, h1, _⟩ := ro; rw [hp] at h1; cases h1
theorem RelO.ext {o : O} {a : Addr} {ι' : List Addr} {H' : Hp} (x : Ext ι H ι' H') (e : H' a = H a) (ro : RelO K w cl ι H o a) : RelO K w cl ι' H' o a := by
  cases o with
  | lst ds => obtain ⟨us, h1, h2⟩ := ro; exact ⟨us, by rw [e]; exact h1, h2.ext x⟩
  | ins c fs => obtain ⟨A, dx, us, hc, hk, h1, h2⟩ := ro; exact ⟨A, dx, us, hc, hk, by rw [e]; exact h1, h2.ext x⟩
/-- anything new that the store does not know -/
theorem RelS.laid {p : Addr} {o : HO} (rs : RelS K w cl ι s H) (hp : H p = none) : RelS K w cl ι s (upd H p o) :=
  ⟨rs.len, rs.nd, fun n o' e => let ⟨a, ea, ro⟩ := rs.at_ n o' e; ⟨a, ea, ro.ext (Ext.new hp) (upd_ne fun z => rs.notin hp (by rw [← z]; exact List.mem_of_getElem? ea))⟩⟩
theorem new_tup {xs : List D} {vs : List V} {p : Addr} (rs : RelS K w cl ι s H) (r : RelDs K w cl ι H xs vs) (hp : H p = none) : Ext ι H ι (upd H p (.tup vs)) ∧ RelS K w cl ι s (upd H p (.tup vs)) ∧ RelD K w cl ι (upd H p (.tup vs)) (.tup xs) (.ref p) :=
  ⟨Ext.new hp, rs.laid hp, .tup (.inl ⟨.inl upd_same, rs.notin hp⟩) (r.ext (Ext.new hp))⟩
/-- a new thing of the store -/
theorem RelS.push {p : Addr} {o : HO} {ob : O} (rs : RelS K w cl ι s H) (hp : H p = none) (ro : RelO K w cl (ι ++ [p]) (upd H p o) ob p) : RelS K w cl (ι ++ [p]) (s ++ [ob]) (upd H p o) := by
  refine ⟨by rw [List.length_append, List.length_append, rs.len]; rfl, List.nodup_append.mpr ⟨rs.nd, by simp, fun a ha b hb => ?_⟩, fun n o' e => ?_⟩
  · rw [List.mem_singleton.mp hb]
    rintro rfl
    exact rs.notin hp ha
  · by_cases hn : n < s.length
    · rw [List.getElem?_append_left hn] at e
      obtain ⟨a, ea, ro'⟩ := rs.at_ n o' e
      exact ⟨a, by rw [List.getElem?_append_left (by rw [rs.len]; exact hn)]; exact ea, ro'.ext (Ext.push hp) (upd_ne fun z => rs.notin hp (by rw [← z]; exact List.mem_of_getElem? ea))⟩
    · have hn' : n = s.length := by
        have := (List.getElem?_eq_some_iff.mp e).1
        rw [List.length_append] at this
        simp at this
        omega
      subst hn'
      rw [List.getElem?_append_right (Nat.le_refl _)] at e
      simp at e
      subst e
      exact ⟨p, by rw [List.getElem?_append_right (by rw [rs.len]; exact Nat.le_refl _), rs.len]; simp, ro⟩
/-- a thing of the store is changed -/
theorem RelS.write {n : Nat} {a : Addr} {o : HO} {ob : O} (rs : RelS K w cl ι s H) (hn : ι[n]? = some a) (ro : RelO K w cl ι (upd H a o) ob a) : RelS K w cl ι (s.set n ob) (upd H a o) := by
  have hm : a ∈ ι := List.mem_of_getElem? hn
  refine ⟨by rw [List.length_set]; exact rs.len, rs.nd, fun m o' e => ?_⟩
  by_cases hmn : n = m
  · subst hmn
    have hlt : n < s.length := by rw [← rs.len]; exact (List.getElem?_eq_some_iff.mp hn).1
    rw [List.getElem?_set_self hlt] at e
    cases e
    exact ⟨a, hn, ro⟩
  · rw [List.getElem?_set_ne hmn] at e
    obtain ⟨b, eb, ro'⟩ := rs.at_ m o' e
    refine ⟨b, eb, ro'.ext (Ext.write hm) (upd_ne fun z => hmn ?_)⟩
    subst z
    obtain ⟨h1, e1⟩ := List.getElem?_eq_some_iff.mp hn
    obtain ⟨h2, e2⟩ := List.getElem?_eq_some_iff.mp eb
    exact (List.getElem_inj rs.nd).mp (e1.trans e2.symm)
end

/-! ### displays -/
def dTup (ds : List D) (s : S) : R D := if ds.length ≤ sizeLine then .ok (.tup ds) s else .bad
def dLst (ds : List D) (s : S) : R D := if ds.length ≤ sizeLine then .ok (.lst ds) s else .bad
def dNew (ds : List D) (s : S) : R D := if ds.length ≤ sizeLine then .ok (.ref s.length) (s ++ [.lst ds]) else .bad
section
variable {X : Cx} {cl : Str → Option Addr} {W : Wish} {pos : Pos} {e : Expr} {es : List Expr} {m : ME} {ms : MA}
theorem sa_nil : SA X cl W [] aNil := ⟨_, pa_nil, fun σ H Q ρ ι s _ r h => h ι H [] (Ext.refl _ _) r .nil⟩
theorem sa_cons (he : SE X cl W e m) (hr : SA X cl W es ms) (hs : starEach (e :: es) X.env = (false, eval e X.env) :: starEach es X.env := by rfl) : SA X cl W (e :: es) (aCons m ms) := by
  obtain ⟨ta, pa, qa⟩ := he.ex
  obtain ⟨tr, pr, qr⟩ := hr.ex
  refine ⟨_, pa_cons pa pr hs, fun σ H Q ρ ι s en r h => ?_⟩
  refine qa σ H _ ρ ι s en r (PoA.stepE h fun d s1 ι1 H1 v e1 x1 r1 d1 h1 => ?_)
  refine qr σ H1 _ ρ ι1 s1 (en.ext x1) r1 (PoA.stepA h1 fun ds s2 ι2 H2 vs e2 x2 r2 d2 h2 => ?_)
  exact h2 ι2 H2 _ (Ext.refl _ _) r2 (.cons (d1.ext x2) d2)
theorem se_tup {x1} (h : SA X cl W es ms) : SE X cl W (.Tuple es x1 pos) (mN dTup ms) := by
  obtain ⟨ta, pa, qa⟩ := h.ex
  refine ⟨_, pe_tup pa, fun σ H Q ρ ι s en r h => ?_⟩
  refine qa σ H _ ρ ι s en r (PoE.stepA h fun ds s1 ι1 H1 vs e1 x1 r1 d1 h1 => ?_)
  unfold dTup at h1
  split at h1
  · rename_i hl
    refine ⟨by rw [← d1.length]; exact hl, fun p hp => ?_⟩
    obtain ⟨a, b, c⟩ := new_tup r1 d1 hp
    exact h1 _ _ _ a b c
  · exact False.elim h1
theorem se_lst (h : SA X cl W es ms) : SE X cl W (.List es pos) (mN dLst ms) := by
  obtain ⟨ta, pa, qa⟩ := h.ex
  refine ⟨_, pe_lst pa, fun σ H Q ρ ι s en r h => ?_⟩
  refine qa σ H _ ρ ι s en r (PoE.stepA h fun ds s1 ι1 H1 vs e1 x1 r1 d1 h1 => ?_)
  unfold dLst at h1
  split at h1
  · rename_i hl
    refine ⟨by rw [← d1.length]; exact hl, fun p hp => ?_⟩
    obtain ⟨a, b, c⟩ := new_lst r1 d1 hp
    exact h1 _ _ _ a b c
  · exact False.elim h1
theorem new_ref {K : PySem.W.Frag} {w : World} {ι : List Addr} {H : Hp} {s : S} {xs : List D} {vs : List V} {p : Addr} (rs : RelS K w cl ι s H) (r : RelDs K w cl ι H xs vs) (hp : H p = none) :
    Ext ι H (ι ++ [p]) (upd H p (.lst vs)) ∧ RelS K w cl (ι ++ [p]) (s ++ [.lst xs]) (upd H p (.lst vs)) ∧ RelD K w cl (ι ++ [p]) (upd H p (.lst vs)) (.ref s.length) (.ref p) :=
  ⟨Ext.push hp, rs.push hp ⟨vs, upd_same, r.ext (Ext.push hp)⟩, .ref (by rw [List.getElem?_append_right (by rw [rs.len]; exact Nat.le_refl _), rs.len]; simp)⟩
theorem se_new (h : SA X cl W es ms) : SE X cl W (.List es pos) (mN dNew ms) := by
  obtain ⟨ta, pa, qa⟩ := h.ex
  refine ⟨_, pe_lst pa, fun σ H Q ρ ι s en r h => ?_⟩
  refine qa σ H _ ρ ι s en r (PoE.stepA h fun ds s1 ι1 H1 vs e1 x1 r1 d1 h1 => ?_)
  unfold dNew at h1
  split at h1
  · rename_i hl
    refine ⟨by rw [← d1.length]; exact hl, fun p hp => ?_⟩
    obtain ⟨a, b, c⟩ := new_ref r1 d1 hp
    exact h1 _ _ _ a b c
  · exact False.elim h1
end
/-- [..] * k -/
def mRep (ms : MA) (mk : ME) (new : Bool) : ME := fun ρ s => (ms ρ s).bind fun ds s1 => if ds.length ≤ sizeLine then (mk ρ s1).bind fun d s2 => match d with
  | .int k => if -(2 ^ 63) ≤ k ∧ k < 2 ^ 63 ∧ ds.length * k.toNat ≤ sizeLine then
      (if new then .ok (.ref s2.length) (s2 ++ [.lst (List.replicate k.toNat ds).flatten]) else .ok (.lst (List.replicate k.toNat ds).flatten) s2) else .bad
  | _ => .bad
  else .bad
section
variable {X : Cx} {cl : Str → Option Addr} {W : Wish} {pos pos2 : Pos} {e : Expr} {es : List Expr} {m : ME} {ms : MA}
theorem se_rep (new : Bool) (h : SA X cl W es ms) (hk : SE X cl W e m) : SE X cl W (.BinOp (.List es pos2) .Mult e pos) (mRep ms m new) := by
  obtain ⟨ta, pa, qa⟩ := h.ex
  obtain ⟨tb, pb, qb⟩ := hk.ex
  refine ⟨_, pe_op op_rep (pe_lst pa) pb, fun σ H Q ρ ι s en r h => ?_⟩
  refine qa σ H _ ρ ι s en r (PoE.stepA h fun ds s1 ι1 H1 vs e1 x1 r1 d1 h1 => ?_)
  by_cases hz : ds.length ≤ sizeLine
  rotate_left
  · rw [if_neg hz] at h1; exact False.elim h1
  rw [if_pos hz] at h1
  refine ⟨by rw [← d1.length]; exact hz, fun p hp => ?_⟩
  have xn : Ext ι1 H1 ι1 (upd H1 p (.lst vs)) := Ext.new hp
  have np : p ∉ ι1 := r1.notin hp
  refine qb σ _ _ ρ ι1 s1 ((en.ext x1).ext xn) (r1.laid hp) (PoE.step (PoE.mono xn h1 fun _ _ q => q) fun d s2 ι2 H2 v e2 x2 r2 d2 h2 => ?_)
  cases d2 <;> first
    | exact False.elim h2
    | skip
  rename_i k
  simp only at h2
  split at h2
  · rename_i hh
    obtain ⟨hp2, np2⟩ := x2.keep p _ upd_same np
    refine ⟨p, k, vs, rfl, rfl, hp2, hh.1, hh.2.1, by rw [← d1.length]; exact hh.2.2, fun q hq => ?_⟩
    have dd := ((d1.ext xn).ext x2).rep k.toNat
    cases new with
    | true =>
      obtain ⟨a, b, c⟩ := new_ref r2 dd hq
      exact h2 _ _ _ a b c
    | false =>
      obtain ⟨a, b, c⟩ := new_lst r2 dd hq
      exact h2 _ _ _ a b c
  · exact False.elim h2
end
/-- a finished list becomes a thing of the store: for lists that a rule has made anew -/
def mkRef (r : R D) : R D := match r with
  | .ok (.lst xs) s => .ok (.ref s.length) (s ++ [.lst xs])
  | _ => .bad

/-! ### operators -/
def iBits (i : Int) : Int := Builtin.Int.intBits i
def dAdd : D → D → S → R D
  | .int a, .int b, s => .ok (.int (a + b)) s
  | .str a, .str b, s => if a.length + b.length ≤ sizeLine then .ok (.str (a ++ b)) s else .bad
  | .tup a, .tup b, s => if a.length + b.length ≤ sizeLine then .ok (.tup (a ++ b)) s else .bad
  | .int a, .bl b, s => .ok (.int (a + if b then 1 else 0)) s
  | x, y, s => match lview s x, lview s y with
    | some a, some b => if a.length + b.length ≤ sizeLine then .ok (.lst (a ++ b)) s else .bad
    | _, _ => .bad
def dSub : D → D → S → R D
  | .int a, .int b, s => .ok (.int (a - b)) s
  | _, _, _ => .bad
def dMul : D → D → S → R D
  | .int a, .int b, s => if iBits a + iBits b ≤ 134217728 then .ok (.int (a * b)) s else .bad
  | _, _, _ => .bad
def dMod : D → D → S → R D
  | .int a, .int b, s => if 0 < b then .ok (.int (a % b)) s else .bad
  | _, _, _ => .bad
def dFdiv : D → D → S → R D
  | .int a, .int b, s => if 0 < b ∧ b.natAbs.log2 < 9000 then .ok (.int (a / b)) s else .bad
  | _, _, _ => .bad
def dPow : D → D → S → R D
  | .int a, .int b, s => if 0 ≤ b ∧ b ≤ 1000000 ∧ a.natAbs < 2 ^ 64 then .ok (.int (a ^ b.toNat)) s else .bad
  | _, _, _ => .bad
def dNeg : D → S → R D
  | .int a, s => .ok (.int (-a)) s
  | _, _ => .bad
def dLt : D → D → S → R D
  | .int a, .int b, s => .ok (.bl (decide (a < b))) s
  | _, _, _ => .bad
def dLe : D → D → S → R D
  | .int a, .int b, s => .ok (.bl (decide (a ≤ b))) s
  | _, _, _ => .bad
def dGt : D → D → S → R D
  | .int a, .int b, s => .ok (.bl (decide (b < a))) s
  | _, _, _ => .bad
def dGe : D → D → S → R D
  | .int a, .int b, s => .ok (.bl (decide (b ≤ a))) s
  | _, _, _ => .bad
section
variable {X : Cx}
/-- a + b of lists -/
theorem op_catS : OpR X (binaryOp .Add) (fun x y H Q => ∃ l b xs zs, x = .ref l ∧ y = .ref b ∧ SqL X.K H l xs ∧ SqL X.K H b zs ∧ xs.length + zs.length ≤ sizeLine ∧ ∀ p, H p = none → Q (.ref p) (upd H p (.lst (xs ++ zs)))) := by
  intro pins s σ H x y v u Q I rx ry h
  obtain ⟨l, b, xs, zs, rfl, rfl, hH, hB, hz, q⟩ := h
  cases rx
  cases ry
  obtain ⟨vs, r, ⟨⟨cls, dd, data, sl⟩, n, ho, hc, hdd, hd⟩, _⟩ := I.list hH
  obtain ⟨ws, r2, ⟨⟨cls2, dd2, data2, sl2⟩, n2, ho2, hc2, hdd2, hd2⟩, _⟩ := I.list hB
  simp only at hc hd hc2 hd2
  subst hc hd hc2 hd2
  have e : vs.toArray ++ ws.toArray = (vs ++ ws).toArray := by simp
  refine concat_meets ⟨_, ho, rfl⟩ ⟨_, ho2, rfl⟩ noFill_list_add seq_list_add PySem.F.slot_list_add PySem.F.entry_list_add (PySem.F.args_list_add_2 _ _) (list_addW l b vs.toArray ws.toArray n n2 dd dd2 sl sl2 (by
    have h1 := r.length
    have h2 := r2.length
    simp only [List.size_toArray]
    omega)) ⟨ho, ho2, ?_⟩
  rw [e]
  exact ⟨.ref _, _, I.lnew (t' := s.toks) (r.append r2) (by rw [List.length_append]; omega), rfl, q _ I.fresh⟩
end
section
variable {X : Cx} {cl : Str → Option Addr}
theorem d_add : OpD X cl (binaryOp .Add) dAdd := by
  intro W ι H σ Q s dx dy x y rs rx ry h
  unfold dAdd at h
  split at h
  · cases rx; cases ry
    exact ⟨_, op_add, _, _, rfl, rfl, h ι H _ (Ext.refl _ _) rs (.int _)⟩
  · cases rx; cases ry
    split at h
    · exact ⟨_, op_add_str, _, _, rfl, rfl, by assumption, h ι H _ (Ext.refl _ _) rs (.str _)⟩
    · exact False.elim h
  · cases rx with
    | tup h1 r1 =>
    cases ry with
    | tup h2 r2 =>
    split at h
    · rename_i a b _ hl
      refine ⟨_, op_catA, _, _, _, _, rfl, rfl, h1.sq, h2.sq, by rw [← r1.length, ← r2.length]; exact hl, fun e => ?_, fun e1 e2 => ?_, fun e1 e2 p hp => ?_⟩
      · subst e
        cases r1
        exact h ι H _ (Ext.refl _ _) rs (.tup h2 r2)
      · subst e2
        cases r2
        exact h ι H _ (Ext.refl _ _) rs (.tup h1 (by rw [List.append_nil]; exact r1))
      · obtain ⟨a, b, c⟩ := new_tup rs (r1.append r2) hp
        exact h _ _ _ a b c
    · exact False.elim h
  · cases rx; cases ry
    rename_i a b
    refine ⟨_, op_add_ib, _, _, rfl, rfl, ?_⟩
    have := h ι H _ (Ext.refl _ _) rs (.int _)
    cases b <;> exact this
  · split at h
    · rename_i a b ea eb
      split at h
      · rename_i hl
        obtain ⟨p1, vs1, rfl, q1, r1⟩ := lview_at rs rx ea
        obtain ⟨p2, vs2, rfl, q2, r2⟩ := lview_at rs ry eb
        refine ⟨_, op_catS, _, _, _, _, rfl, rfl, q1, q2, by rw [← r1.length, ← r2.length]; exact hl, fun p hp => ?_⟩
        obtain ⟨a, b, c⟩ := new_lst rs (r1.append r2) hp
        exact h _ _ _ a b c
      · exact False.elim h
    · exact False.elim h
theorem d_sub : OpD X cl (binaryOp .Sub) dSub := by
  intro W ι H σ Q s dx dy x y rs rx ry h
  unfold dSub at h
  split at h
  · cases rx; cases ry
    exact ⟨_, op_sub, _, _, rfl, rfl, h ι H _ (Ext.refl _ _) rs (.int _)⟩
  · exact False.elim h
theorem d_mul : OpD X cl (binaryOp .Mult) dMul := by
  intro W ι H σ Q s dx dy x y rs rx ry h
  unfold dMul at h
  split at h
  · cases rx; cases ry
    split at h
    · exact ⟨_, op_mulX, _, _, rfl, rfl, by assumption, h ι H _ (Ext.refl _ _) rs (.int _)⟩
    · exact False.elim h
  · exact False.elim h
theorem d_mod : OpD X cl (binaryOp .Mod) dMod := by
  intro W ι H σ Q s dx dy x y rs rx ry h
  unfold dMod at h
  split at h
  · cases rx; cases ry
    split at h
    · exact ⟨_, op_mod, _, _, rfl, rfl, by assumption, h ι H _ (Ext.refl _ _) rs (.int _)⟩
    · exact False.elim h
  · exact False.elim h
theorem d_fdiv : OpD X cl (binaryOp .FloorDiv) dFdiv := by
  intro W ι H σ Q s dx dy x y rs rx ry h
  unfold dFdiv at h
  split at h
  · cases rx; cases ry
    split at h
    · exact ⟨_, op_fdivW, _, _, rfl, rfl, by assumption, h ι H _ (Ext.refl _ _) rs (.int _)⟩
    · exact False.elim h
  · exact False.elim h
theorem d_pow : OpD X cl (binaryOp .Pow) dPow := by
  intro W ι H σ Q s dx dy x y rs rx ry h
  unfold dPow at h
  split at h
  · cases rx; cases ry
    split at h
    · exact ⟨_, op_pow, _, _, rfl, rfl, by assumption, h ι H _ (Ext.refl _ _) rs (.int _)⟩
    · exact False.elim h
  · exact False.elim h
theorem d_neg : UnD X cl (unaryOp .USub) dNeg := by
  intro W ι H σ Q s dx x rs rx h
  unfold dNeg at h
  split at h
  · cases rx
    exact ⟨_, un_neg, _, rfl, h ι H _ (Ext.refl _ _) rs (.int _)⟩
  · exact False.elim h
theorem d_lt : OpD X cl (compareOp .Lt) dLt := by
  intro W ι H σ Q s dx dy x y rs rx ry h
  unfold dLt at h
  split at h
  · cases rx; cases ry
    exact ⟨_, op_lt, _, _, rfl, rfl, h ι H _ (Ext.refl _ _) rs (.bl _)⟩
  · exact False.elim h
theorem d_le : OpD X cl (compareOp .LtE) dLe := by
  intro W ι H σ Q s dx dy x y rs rx ry h
  unfold dLe at h
  split at h
  · cases rx; cases ry
    exact ⟨_, op_le, _, _, rfl, rfl, h ι H _ (Ext.refl _ _) rs (.bl _)⟩
  · exact False.elim h
theorem d_gt : OpD X cl (compareOp .Gt) dGt := by
  intro W ι H σ Q s dx dy x y rs rx ry h
  unfold dGt at h
  split at h
  · cases rx; cases ry
    exact ⟨_, op_gt, _, _, rfl, rfl, h ι H _ (Ext.refl _ _) rs (.bl _)⟩
  · exact False.elim h
theorem d_ge : OpD X cl (compareOp .GtE) dGe := by
  intro W ι H σ Q s dx dy x y rs rx ry h
  unfold dGe at h
  split at h
  · cases rx; cases ry
    exact ⟨_, op_ge, _, _, rfl, rfl, h ι H _ (Ext.refl _ _) rs (.bl _)⟩
  · exact False.elim h
end
end Pm
namespace Pm
open PySem PySem.Spec PyProof.Rows L2

/-! ### equality of data -/
def optAll (f : D → Option PyData) : List D → Option (List PyData)
  | [] => some []
  | x :: xs => match f x, optAll f xs with
    | some p, some ps => some (p :: ps)
    | _, _ => none
def toPy (s : S) : Nat → D → Option PyData
  | 0, _ => none
  | _ + 1, .non => some .none
  | _ + 1, .bl b => some (.bool b)
  | _ + 1, .int i => some (.int i)
  | _ + 1, .str x => if PySem.PyData.strOk x = true then some (.str x) else none
  | k + 1, .tup xs => (optAll (toPy s k) xs).map .tuple
  | k + 1, .lst xs => (optAll (toPy s k) xs).map .list
  | k + 1, .ref n => match s[n]? with
    | some (.lst xs) => (optAll (toPy s k) xs).map .list
    | _ => none
  | _ + 1, _ => none
def dEq : D → D → S → R D := fun x y s => match toPy s 60 x, toPy s 60 y with
  | some p, some q => .ok (.bl (PyData.eqv p q)) s
  | _, _ => .bad
def dNe : D → D → S → R D := fun x y s => match toPy s 60 x, toPy s 60 y with
  | some p, some q => .ok (.bl (!PyData.eqv p q)) s
  | _, _ => .bad
section
variable {X : Cx} {cl : Str → Option Addr} {K : PySem.W.Frag} {w : World} {ι : List Addr} {H : Hp} {s : S}
theorem optAll_dp {f : D → Option PyData} (hf : ∀ d p v, f d = some p → RelD K w cl ι H d v → Dp K H v p) : ∀ {xs : List D} {ps : List PyData} {vs : List V}, optAll f xs = some ps → RelDs K w cl ι H xs vs → DpAll K H vs ps
  | [], ps, _, e, .nil => by cases e; exact .nil
  | x :: xs, ps, _, e, .cons r t => by
    simp only [optAll] at e
    split at e
    · rename_i p qs e1 e2
      cases e
      exact .cons (hf _ _ _ e1 r) (optAll_dp hf e2 t)
    · cases e
theorem toPy_dp (rs : RelS K w cl ι s H) : ∀ (k : Nat) (d : D) (p : PyData) (v : V), toPy s k d = some p → RelD K w cl ι H d v → Dp K H v p
  | 0, d, p, v, e, r => by cases e
  | k + 1, d, p, v, e, r => by
    have ih := toPy_dp rs k
    cases r <;> simp only [toPy] at e
    · cases e; exact .non
    · cases e; exact .bl _
    · cases e; exact .int _
    · split at e
      · cases e; exact .str _
      · cases e
    · rename_i h1 r1
      obtain ⟨ps, e1, rfl⟩ := Option.map_eq_some_iff.mp e
      exact .tup h1.sq (optAll_dp ih e1 r1)
    · rename_i h1 r1
      obtain ⟨ps, e1, rfl⟩ := Option.map_eq_some_iff.mp e
      exact .lst h1.sq (optAll_dp ih e1 r1)
    · rename_i n a h1
      split at e
      · rename_i xs e2
        obtain ⟨ps, e1, rfl⟩ := Option.map_eq_some_iff.mp e
        obtain ⟨a', ea, vs, ha, r1⟩ := rs.at_ n _ e2
        rw [h1] at ea
        cases ea
        exact .lst (SqL.of ha) (optAll_dp ih e1 r1)
      · cases e
    all_goals cases e
theorem optAll_lay {f : D → Option PyData} {k : Nat} (hf : ∀ d p, f d = some p → p.canLay0 = true ∧ p.depth ≤ k) : ∀ {xs : List D} {ps : List PyData}, optAll f xs = some ps → PyData.canLayAll0 ps = true ∧ PyData.depthAll ps ≤ k
  | [], ps, e => by cases e; exact ⟨rfl, by simp [PyData.depthAll]⟩
  | x :: xs, ps, e => by
    simp only [optAll] at e
    split at e
    · rename_i p qs e1 e2
      cases e
      obtain ⟨h1, h2⟩ := hf _ _ e1
      obtain ⟨h3, h4⟩ := optAll_lay hf e2
      refine ⟨by simp [PyData.canLayAll0, h1, h3], ?_⟩
      simp only [PyData.depthAll]
      omega
    · cases e
theorem toPy_lay : ∀ (k : Nat) (d : D) (p : PyData), toPy s k d = some p → p.canLay0 = true ∧ p.depth ≤ k
  | 0, d, p, e => by cases e
  | k + 1, d, p, e => by
    have ih := toPy_lay k
    cases d <;> simp only [toPy] at e
    · cases e; exact ⟨rfl, by simp [PyData.depth]⟩
    · cases e; exact ⟨rfl, by simp [PyData.depth]⟩
    · cases e; exact ⟨rfl, by simp [PyData.depth]⟩
    · split at e
      · rename_i h1; cases e; exact ⟨h1, by simp [PyData.depth]⟩
      · cases e
    · obtain ⟨ps, e1, rfl⟩ := Option.map_eq_some_iff.mp e
      obtain ⟨h1, h2⟩ := optAll_lay ih e1
      exact ⟨h1, by simp only [PyData.depth]; omega⟩
    · obtain ⟨ps, e1, rfl⟩ := Option.map_eq_some_iff.mp e
      obtain ⟨h1, h2⟩ := optAll_lay ih e1
      exact ⟨h1, by simp only [PyData.depth]; omega⟩
    · split at e
      · obtain ⟨ps, e1, rfl⟩ := Option.map_eq_some_iff.mp e
        obtain ⟨h1, h2⟩ := optAll_lay ih e1
        exact ⟨h1, by simp only [PyData.depth]; omega⟩
      · cases e
    all_goals cases e
theorem toPy_shaped {d : D} {p : PyData} (e : toPy s 60 d = some p) : SeqAt.shaped p = true := by
  obtain ⟨h1, h2⟩ := toPy_lay _ _ _ e
  unfold SeqAt.shaped
  rw [h1, Bool.true_and]
  exact decide_eq_true (by omega)
theorem d_eq (hu : X.A.units + 64 < cLine) : OpD X cl (compareOp .Eq) dEq := by
  intro W ι H σ Q s dx dy x y rs rx ry h
  unfold dEq at h
  split at h
  · rename_i p q e1 e2
    exact ⟨_, op_eqD hu, p, q, toPy_dp rs _ _ _ _ e1 rx, toPy_dp rs _ _ _ _ e2 ry, toPy_shaped e1, toPy_shaped e2, h ι H _ (Ext.refl _ _) rs (.bl _)⟩
  · exact False.elim h
theorem d_ne (hu : X.A.units + 64 < cLine) : OpD X cl (compareOp .NotEq) dNe := by
  intro W ι H σ Q s dx dy x y rs rx ry h
  unfold dNe at h
  split at h
  · rename_i p q e1 e2
    exact ⟨_, op_neD hu, p, q, toPy_dp rs _ _ _ _ e1 rx, toPy_dp rs _ _ _ _ e2 ry, toPy_shaped e1, toPy_shaped e2, h ι H _ (Ext.refl _ _) rs (.bl _)⟩
  · exact False.elim h

/-! ### is -/
def isNonD : D → Bool
  | .non => true
  | _ => false
def dIs : D → D → S → R D
  | x, .non, s => .ok (.bl (isNonD x)) s
  | .bl a, .bl b, s => .ok (.bl (decide (a = b))) s
  | .non, .bl _, s => .ok (.bl false) s
  | _, _, _ => .bad
def dIsNot : D → D → S → R D
  | x, .non, s => .ok (.bl (!isNonD x)) s
  | .bl a, .bl b, s => .ok (.bl (!decide (a = b))) s
  | .non, .bl _, s => .ok (.bl true) s
  | _, _, _ => .bad
theorem isNonD_ok {d : D} {v : V} (r : RelD K w cl ι H d v) : decide (v = V.non) = isNonD d := by
  cases r <;> rfl
theorem op_isNB : OpR X (compareOp .Is) (fun x y H Q => ∃ b, x = .non ∧ y = .bl b ∧ Q (.bl false) H) := by
  intro pins s σ H x y v u Q I rx ry h
  obtain ⟨b, rfl, rfl, q⟩ := h
  cases (show v = Value.none from rx)
  cases (show u = Value.bool b from ry)
  exact wpAny_is_other rfl (fun z => nomatch z) ⟨.bl false, H, I, rfl, q⟩
theorem op_notNB : OpR X (compareOp .IsNot) (fun x y H Q => ∃ b, x = .non ∧ y = .bl b ∧ Q (.bl true) H) := by
  intro pins s σ H x y v u Q I rx ry h
  obtain ⟨b, rfl, rfl, q⟩ := h
  cases (show v = Value.none from rx)
  cases (show u = Value.bool b from ry)
  exact wpAny_isNot_other rfl (fun z => nomatch z) ⟨.bl true, H, I, rfl, q⟩
theorem d_is : OpD X cl (compareOp .Is) dIs := by
  intro W ι H σ Q s dx dy x y rs rx ry h
  unfold dIs at h
  split at h
  · cases ry
    exact ⟨_, op_isN, rfl, by rw [isNonD_ok rx]; exact h ι H _ (Ext.refl _ _) rs (.bl _)⟩
  · cases rx; cases ry
    exact ⟨_, op_isBl, _, _, rfl, rfl, h ι H _ (Ext.refl _ _) rs (.bl _)⟩
  · cases rx; cases ry
    exact ⟨_, op_isNB, _, rfl, rfl, h ι H _ (Ext.refl _ _) rs (.bl _)⟩
  · exact False.elim h
theorem d_isnot : OpD X cl (compareOp .IsNot) dIsNot := by
  intro W ι H σ Q s dx dy x y rs rx ry h
  unfold dIsNot at h
  split at h
  · cases ry
    exact ⟨_, op_notN, rfl, by rw [isNonD_ok rx]; exact h ι H _ (Ext.refl _ _) rs (.bl _)⟩
  · cases rx; cases ry
    exact ⟨_, op_notBl, _, _, rfl, rfl, h ι H _ (Ext.refl _ _) rs (.bl _)⟩
  · cases rx; cases ry
    exact ⟨_, op_notNB, _, rfl, rfl, h ι H _ (Ext.refl _ _) rs (.bl _)⟩
  · exact False.elim h

/-! ### in -/
def strIn (i j : Str) : Bool := !(Builtin.Str.occurrences j i 0 j.length 1).isEmpty
/-- scalars -/
def flatD : D → Bool
  | .non => true
  | .bl _ => true
  | .int _ => true
  | .str _ => true
  | _ => false
/-- == of scalars -/
def sEq : D → D → Bool
  | .non, .non => true
  | .bl a, .bl b => a == b
  | .bl a, .int b => (if a then 1 else 0) == b
  | .int a, .bl b => a == (if b then 1 else 0)
  | .int a, .int b => a == b
  | .str a, .str b => a == b
  | _, _ => false
def dMem (x : D) (y : D) (s : S) : Option Bool := match x, y with
  | .str i, .str j => some (strIn i j)
  | .str i, .dic kvs => some (kvs.lookup i).isSome
  | x, .tup ys => if flatD x && ys.all flatD then some (ys.any fun z => sEq z x) else none
  | x, y => match lview s y with
    | some ys => if flatD x && ys.all flatD then some (ys.any fun z => sEq z x) else
        match toPy s 60 x, optAll (toPy s 59) ys with
        | some p, some ps => some (ps.any fun z => PyData.eqv z p)
        | _, _ => none
    | none => none
def dIn (x y : D) (s : S) : R D := match dMem x y s with
  | some b => .ok (.bl b) s
  | none => .bad
def dNotIn (x y : D) (s : S) : R D := match dMem x y s with
  | some b => .ok (.bl (!b)) s
  | none => .bad
theorem flat_V {d : D} {v : V} (r : RelD K w cl ι H d v) (f : flatD d = true) : flatV v = true := by
  cases r <;> first
    | rfl
    | cases f
theorem sEq_V {d e : D} {v u : V} (r : RelD K w cl ι H d v) (q : RelD K w cl ι H e u) (f : flatD d = true) (g : flatD e = true) : eqV v u = sEq d e := by
  cases r <;> cases q <;> first
    | rfl
    | cases f
    | cases g
theorem flats_V : ∀ {ds : List D} {vs : List V}, RelDs K w cl ι H ds vs → ds.all flatD = true → vs.all flatV = true
  | _, _, .nil, _ => rfl
  | _, _, .cons r t, f => by
    rw [List.all_cons, Bool.and_eq_true] at f
    rw [List.all_cons, flat_V r f.1, flats_V t f.2]
    rfl
theorem inV_ok {d : D} {v : V} (r : RelD K w cl ι H d v) (f : flatD d = true) : ∀ {ds : List D} {vs : List V}, RelDs K w cl ι H ds vs → ds.all flatD = true → inV v vs = ds.any fun z => sEq z d
  | _, _, .nil, _ => rfl
  | _, _, .cons q t, g => by
    rw [List.all_cons, Bool.and_eq_true] at g
    have ih := inV_ok r f t g.2
    unfold inV at ih ⊢
    rw [List.any_cons, List.any_cons, ih, sEq_V q r g.1 f]
theorem kdx_lookup {kvs : List (Str × D)} {vs : List (Str × V)} (r : RelFs K w cl ι H kvs vs) (z : Str) : match kvs.lookup z with
    | some d => ∃ v, vs.lookup z = some v ∧ RelD K w cl ι H d v
    | none => vs.lookup z = none := by
  induction kvs generalizing vs with
  | nil => cases r; rfl
  | cons p t ih =>
    cases r with
    | @cons f d v ds us r1 t1 =>
      have := ih t1
      rw [List.lookup_cons, List.lookup_cons]
      by_cases e : z == f
      · simp only [e]
        exact ⟨v, rfl, r1⟩
      · simp only [Bool.eq_false_iff.mpr e]
        exact this
theorem paired_lookup : ∀ {vs : List (Str × V)} {us : List (Str × Value)}, Paired (fun (p : Str × V) (q : Str × Value) => p.1 = q.1 ∧ RelV p.2 q.2) vs us → ∀ z : Str, match vs.lookup z with
    | some v => ∃ u, us.lookup z = some u ∧ RelV v u
    | none => us.lookup z = none
  | _, _, .nil, z => rfl
  | (f, v) :: vs, (g, u) :: us, .cons ⟨e1, r⟩ t, z => by
    have ih := paired_lookup t z
    simp only at e1 r
    subst e1
    rw [List.lookup_cons, List.lookup_cons]
    by_cases e : z == f
    · simp only [e]
      exact ⟨u, rfl, r⟩
    · simp only [Bool.eq_false_iff.mpr e]
      exact ih
theorem in_gen {op : CmpOp} {neg : Bool} (h1 : OpR X (compareOp op) (rIn X.K neg)) (h2 : OpR X (compareOp op) (fun x y H Q => ∃ i j, x = .str i ∧ y = .str j ∧ Q (.bl (if neg then !strIn i j else strIn i j)) H))
    (h3 : ∀ {d : Addr} {es : Array DictEntry} {n : Nat}, KDict X.K X.w d es n → OpR X (compareOp op) (fun x y H Q => ∃ (z : Str) (r : Option Value), x = .str z ∧ y = .ref d ∧ PySem.W.nsIn X.K d z = some r ∧ Q (.bl (if neg then !r.isSome else r.isSome)) H))
    (h4 : OpR X (compareOp op) (fun x y H Q => ∃ d ds, Dp X.K H x d ∧ Dp X.K H y (.list ds) ∧ SeqAt.shaped d = true ∧ SeqAt.shaped (.list ds) = true ∧ Q (.bl (if neg then !ds.any (fun z => PyData.eqv z d) else ds.any fun z => PyData.eqv z d)) H))
    {W : Wish} {σ : L2.St} {Q : VK} {s : S} {ι : List Addr} {H : Hp} {dx dy : D} {x y : V} {b : Bool} (rs : RelS X.K X.w cl ι s H) (rx : RelD X.K X.w cl ι H dx x) (ry : RelD X.K X.w cl ι H dy y) (e : dMem dx dy s = some b)
    (q : Q (.bl (if neg then !b else b)) H) : AnyOp X (compareOp op) x y H Q := by
  unfold dMem at e
  split at e
  · cases rx; cases ry
    cases e
    exact ⟨_, h2, _, _, rfl, rfl, q⟩
  · rename_i i kvs
    cases rx
    cases ry with
    | @dic kvs a vs hk r =>
    obtain ⟨es, n, us, k1, k2, k3, k4, k5⟩ := hk
    have kl := kdx_lookup r i
    have pl := paired_lookup k5 i
    refine ⟨_, h3 ⟨k1, k2, k3⟩, i, _, rfl, rfl, k4 i, ?_⟩
    have eb : (us.lookup i).isSome = b := by
      cases e
      cases e1 : kvs.lookup i with
      | none => rw [e1] at kl; simp only at kl; rw [kl] at pl; simp only at pl; rw [pl]; rfl
      | some d => rw [e1] at kl; obtain ⟨v, e2, _⟩ := kl; rw [e2] at pl; obtain ⟨u, e3, _⟩ := pl; rw [e3]; rfl
    rw [eb]
    exact q
  · rename_i ys
    split at e
    · rename_i f
      rw [Bool.and_eq_true] at f
      cases e
      cases ry with
      | tup h5 r5 =>
      exact ⟨_, h1, _, _, rfl, .inr h5.sq, flat_V rx f.1, flats_V r5 f.2, by rw [inV_ok rx f.1 r5 f.2]; exact q⟩
    · cases e
  · split at e
    · rename_i ys e5
      obtain ⟨a, vs, rfl, hl, r5⟩ := lview_at rs ry e5
      split at e
      · rename_i f
        rw [Bool.and_eq_true] at f
        cases e
        exact ⟨_, h1, _, _, rfl, .inl hl.sq, flat_V rx f.1, flats_V r5 f.2, by rw [inV_ok rx f.1 r5 f.2]; exact q⟩
      · split at e
        · rename_i p ps e6 e7
          cases e
          refine ⟨_, h4, p, ps, toPy_dp rs _ _ _ _ e6 rx, .lst hl.sq (optAll_dp (toPy_dp rs 59) e7 r5), toPy_shaped e6, ?_, q⟩
          obtain ⟨g1, g2⟩ := optAll_lay (k := 59) (toPy_lay 59) e7
          unfold SeqAt.shaped
          rw [show (PyData.list ps).canLay0 = true from g1, Bool.true_and]
          exact decide_eq_true (by simp only [PyData.depth]; omega)
        · cases e
    · cases e
theorem d_in (hu : X.A.units + 65 < cLine) : OpD X cl (compareOp .In) dIn := by
  intro W ι H σ Q s dx dy x y rs rx ry h
  unfold dIn at h
  split at h
  · rename_i b e
    exact in_gen (neg := false) (W := W) (σ := σ) op_in_seq op_in_str (fun D => op_in_kd D) (op_inD hu) rs rx ry e (h ι H _ (Ext.refl _ _) rs (.bl _))
  · exact False.elim h
theorem d_notin (hu : X.A.units + 65 < cLine) : OpD X cl (compareOp .NotIn) dNotIn := by
  intro W ι H σ Q s dx dy x y rs rx ry h
  unfold dNotIn at h
  split at h
  · rename_i b e
    exact in_gen (neg := true) (W := W) (σ := σ) op_notIn_seq L2.op_notIn_str (fun D => op_notIn_kd D) (op_notInD hu) rs rx ry e (h ι H _ (Ext.refl _ _) rs (.bl _))
  · exact False.elim h

/-! ### places -/
def dIx : D → D → S → R D
  | .str z, .int i, s => if z.length ≤ sizeLine then (match atI z.cps.toList i with
    | some c => .ok (.str ⟨#[c]⟩) s
    | none => .bad) else .bad
  | .tup xs, .int i, s => (match atI xs i with
    | some d => .ok d s
    | none => .bad)
  | .dic kvs, .str z, s => (match kvs.lookup z with
    | some d => .ok d s
    | none => .bad)
  | x, .int i, s => (match lview s x with
    | some xs => (match atI xs i with
      | some d => .ok d s
      | none => .bad)
    | none => .bad)
  | _, _, _ => .bad
theorem atI_rel {xs : List D} {vs : List V} {i : Int} {d : D} (r : RelDs K w cl ι H xs vs) (e : atI xs i = some d) : ∃ v, atI vs i = some v ∧ RelD K w cl ι H d v := by
  unfold atI at e ⊢
  rw [← r.length]
  cases h : ixN xs.length i with
  | none => rw [h] at e; cases e
  | some j => rw [h] at e; exact r.get e
theorem d_ix : IxD X cl dIx := by
  intro W ι H σ Q s dx dy x y rs rx ry h
  unfold dIx at h
  split at h
  · cases rx; cases ry
    split at h
    · split at h
      · exact ⟨_, ix_str, _, _, _, rfl, rfl, by assumption, by assumption, h ι H _ (Ext.refl _ _) rs (.str _)⟩
      · exact False.elim h
    · exact False.elim h
  · cases ry
    cases rx with
    | tup h1 r1 =>
    split at h
    · rename_i d e
      obtain ⟨v, e1, rd⟩ := atI_rel r1 e
      exact ⟨_, ix_tup, _, _, _, _, rfl, rfl, h1.sq, e1, h ι H _ (Ext.refl _ _) rs rd⟩
    · exact False.elim h
  · cases ry
    rename_i kvs z
    cases rx with
    | @dic kvs a vs hk r =>
    split at h
    · rename_i d e
      obtain ⟨es, n, us, k1, k2, k3, k4, k5⟩ := hk
      have kl := kdx_lookup r z
      have pl := paired_lookup k5 z
      rw [e] at kl
      obtain ⟨v, e2, rd⟩ := kl
      rw [e2] at pl
      obtain ⟨u, e3, rv⟩ := pl
      exact ⟨_, ix_kdict, a, z, v, rfl, rfl, ⟨es, n, u, k1, k2, by rw [k4, e3], rv⟩, h ι H _ (Ext.refl _ _) rs rd⟩
    · exact False.elim h
  · cases ry
    split at h
    · rename_i xs e5
      obtain ⟨a, vs, rfl, hl, r5⟩ := lview_at rs rx e5
      split at h
      · rename_i d e
        obtain ⟨v, e1, rd⟩ := atI_rel r5 e
        exact ⟨_, ix_list, _, _, _, _, rfl, rfl, hl.sq, e1, h ι H _ (Ext.refl _ _) rs rd⟩
      · exact False.elim h
    · exact False.elim h
  · exact False.elim h
variable {W : Wish} {a b c : Expr} {ma mb mc : ME} {pos : Pos}
theorem se_ix (ha : SE X cl W a ma) (hb : SE X cl W b mb) (hs : PlainIx b := by exact fun _ _ => rfl) : SE X cl W (.Subscript a b pos) (m2 dIx ma mb) := by
  obtain ⟨ta, pa, qa⟩ := ha.ex
  obtain ⟨tb, pb, qb⟩ := hb.ex
  refine ⟨_, pe_ix anyIx pa pb hs, fun σ H Q ρ ι s e r h => ?_⟩
  refine qa σ H _ ρ ι s e r (PoE.step h fun d s1 ι1 H1 v e1 x1 r1 d1 h1 => ?_)
  refine qb σ H1 _ ρ ι1 s1 (e.ext x1) r1 (PoE.step h1 fun d2 s2 ι2 H2 v2 e2 x2 r2 dd2 h2 => ?_)
  exact d_ix W ι2 H2 σ Q s2 d d2 v v2 r2 (d1.ext x2) dd2 h2
/-- slices -/
def dCut (xs : List D) (lo hi : Option Int) : List D := (xs.drop (HT.sIx xs.length 0 lo)).take (HT.sIx xs.length xs.length hi - HT.sIx xs.length 0 lo)
def dSl (lo hi : Option Int) : D → S → R D
  | .str z, s => if z.length ≤ sizeLine then .ok (.str (Txt.slice z lo hi)) s else .bad
  | .tup xs, s => .ok (.tup (dCut xs lo hi)) s
  | x, s => match lview s x with
    | some xs => .ok (.lst (dCut xs lo hi)) s
    | none => .bad
theorem dCut_rel {xs : List D} {vs : List V} {lo hi : Option Int} (r : RelDs K w cl ι H xs vs) : RelDs K w cl ι H (dCut xs lo hi) (cutV vs lo hi) := by
  unfold dCut cutV
  rw [r.length]
  exact (r.drop _).take _
/-- an optional bound: nothing, or an int -/
def oNone : Rho → S → R (Option Int) := fun _ s => .ok none s
def oSome (m : ME) : Rho → S → R (Option Int) := fun ρ s => (m ρ s).bind fun d s1 => match d with
  | .int i => .ok (some i) s1
  | _ => .bad
def mSl (m : ME) (lo hi : Rho → S → R (Option Int)) : ME := fun ρ s => (m ρ s).bind fun d s1 => (lo ρ s1).bind fun l s2 => (hi ρ s2).bind fun h s3 => dSl l h d s3
structure SO (X : Cx) (cl : Str → Option Addr) (W : Wish) (e : Option Expr) (m : Rho → S → R (Option Int)) : Prop where
  ex : ∃ t, PO X e t ∧ ∀ (σ : L2.St) (H : Hp) (Q : Option Int → Hp → Prop) ρ ι s, RelE X.K X.w cl ι H ρ σ → RelS X.K X.w cl ι s H →
    (match m ρ s with
      | .ok o s1 => ∀ ι' H', Ext ι H ι' H' → RelS X.K X.w cl ι' s1 H' → Q o H'
      | .exc x s1 => ∀ ι' H' c d, Ext ι H ι' H' → RelS X.K X.w cl ι' s1 H' → RelX X.K X.w cl ι' H' x c d → W c d σ H'
      | .bad => False) → t σ H Q
theorem so_none : SO X cl W none oNone := ⟨_, po_none, fun σ H Q ρ ι s _ r h => h ι H (Ext.refl _ _) r⟩
theorem so_some (ha : SE X cl W a ma) : SO X cl W (some a) (oSome ma) := by
  obtain ⟨ta, pa, qa⟩ := ha.ex
  refine ⟨_, po_some pa, fun σ H Q ρ ι s e r h => ?_⟩
  unfold oSome at h
  refine qa σ H _ ρ ι s e r ?_
  cases e1 : ma ρ s with
  | ok d s1 =>
    rw [e1] at h
    intro ι1 H1 v x1 r1 rd
    simp only [R.bind] at h
    cases rd <;> first
      | exact ⟨_, rfl, h ι1 H1 x1 r1⟩
      | exact False.elim h
  | exc d s1 => rw [e1] at h; exact h
  | bad => rw [e1] at h; exact h
theorem se_slice {p2 : Pos} {lo hi : Option Expr} {ml mh : Rho → S → R (Option Int)} (ha : SE X cl W a ma) (hl : SO X cl W lo ml) (hh : SO X cl W hi mh) : SE X cl W (.Subscript a (.Slice lo hi none p2) pos) (mSl ma ml mh) := by
  obtain ⟨ta, pa, qa⟩ := ha.ex
  obtain ⟨tl, pl, ql⟩ := hl.ex
  obtain ⟨th, ph, qh⟩ := hh.ex
  refine ⟨_, pe_slice (SlR.or sl_tupA (SlR.or sl_list C8.sl_txt)) pa pl ph, fun σ H Q ρ ι s e r h => ?_⟩
  refine qa σ H _ ρ ι s e r (PoE.step h fun d s1 ι1 H1 v e1 x1 r1 d1 h1 => ?_)
  refine ql σ H1 _ ρ ι1 s1 (e.ext x1) r1 ?_
  cases e2 : ml ρ s1 with
  | exc dd ss => rw [e2] at h1; exact h1
  | bad => rw [e2] at h1; exact h1
  | ok l s2 =>
  rw [e2] at h1
  intro ι2 H2 x2 r2
  have h2 : PoE X.K X.w cl W ι2 H2 σ Q ((mh ρ s2).bind fun h s3 => dSl l h d s3) := PoE.mono x2 h1 fun _ _ q => q
  refine qh σ H2 _ ρ ι2 s2 ((e.ext x1).ext x2) r2 ?_
  cases e3 : mh ρ s2 with
  | exc dd ss => rw [e3] at h2; exact h2
  | bad => rw [e3] at h2; exact h2
  | ok u s3 =>
  rw [e3] at h2
  intro ι3 H3 x3 r3
  have h3 : PoE X.K X.w cl W ι3 H3 σ Q (dSl l u d s3) := PoE.mono x3 h2 fun _ _ q => q
  have d3 := (d1.ext x2).ext x3
  unfold dSl at h3
  split at h3
  · cases d3
    split at h3
    · exact .inr (.inr ⟨_, rfl, by assumption, h3 ι3 H3 _ (Ext.refl _ _) r3 (.str _)⟩)
    · exact False.elim h3
  · rename_i ds
    cases d3 with
    | tup ht rt =>
    refine .inl ⟨_, _, rfl, ht.sq, fun z => ?_, fun z p hp => ?_⟩
    · refine h3 ι3 H3 _ (Ext.refl _ _) r3 (.tup ht ?_)
      have e4 : dCut ds l u = ds := by
        unfold dCut
        have hz := rt.length
        rw [hz, z.1, z.2, ← hz]
        simp
      rw [e4]
      exact rt
    · obtain ⟨a, b, c⟩ := new_tup r3 (dCut_rel (lo := l) (hi := u) rt) hp
      exact h3 _ _ _ a b c
  · split at h3
    · rename_i xs e5
      obtain ⟨aa, vs, rfl, hl', r5⟩ := lview_at r3 d3 e5
      refine .inr (.inl ⟨_, _, rfl, hl'.sq, fun p hp => ?_⟩)
      obtain ⟨a, b, c⟩ := new_lst r3 (dCut_rel (lo := l) (hi := u) r5) hp
      exact h3 _ _ _ a b c
    · exact False.elim h3
end
end Pm
namespace Pm
open PySem PySem.Spec PyProof.Rows L2

/-! ### statements -/
def ssNil : MS := fun ρ s => .ok (.nx ρ) s
def ssCons (a b : MS) : MS := fun ρ s => (a ρ s).andThen b
def sSet (i : Nat) (m : ME) : MS := fun ρ s => (m ρ s).st ρ fun d s1 => .ok (.nx (ρ.set i (some d))) s1
def sExpr (m : ME) : MS := fun ρ s => (m ρ s).st ρ fun _ s1 => .ok (.nx ρ) s1
def sRet (m : ME) : MS := fun ρ s => (m ρ s).st ρ fun d s1 => .ok (.rt d) s1
def sRetN : MS := fun _ s => .ok (.rt .non) s
def sIf (c : MT) (a b : MS) : MS := fun ρ s => (c ρ s).st ρ fun k s1 => if k = true then a ρ s1 else b ρ s1
def sPass : MS := fun ρ s => .ok (.nx ρ) s
def sBreak : MS := fun ρ s => .ok (.bk ρ) s
def sCont : MS := fun ρ s => .ok (.ct ρ) s
def sNever : MS := fun _ _ => .bad
/-- a target: a name, a tuple of targets, a place -/
abbrev MG := D → Rho → S → R Rho
def gSlot (i : Nat) : MG := fun d ρ s => .ok (ρ.set i (some d)) s
abbrev MGs := List D → Rho → S → R Rho
def gsNil : MGs := fun ds ρ s => match ds with
  | [] => .ok ρ s
  | _ => .bad
def gsCons (g : MG) (r : MGs) : MGs := fun ds ρ s => match ds with
  | d :: t => (g d ρ s).bind fun ρ1 s1 => r t ρ1 s1
  | [] => .bad
def gTupD (n : Nat) (r : MGs) : MG := fun d ρ s => match d with
  | .tup ds => if ds.length = n then r ds ρ s else .bad
  | _ => .bad
def dStore : D → D → D → S → Option S
  | .ref n, .int k, v, s => match s[n]? with
    | some (.lst xs) => (match ixN xs.length k with
      | some j => some (s.set n (.lst (xs.set j v)))
      | none => none)
    | _ => none
  | _, _, _, _ => none
def gSubD (o i : ME) : MG := fun v ρ s => (o ρ s).bind fun x s1 => (i ρ s1).bind fun y s2 => match dStore x y v s2 with
  | some s3 => .ok ρ s3
  | none => .bad
def sAsg (m : ME) (g : MG) : MS := fun ρ s => (m ρ s).st ρ fun d s1 => match g d ρ s1 with
  | .ok ρ1 s2 => .ok (.nx ρ1) s2
  | _ => .bad
def sAug (i : Nat) (f : D → D → S → R D) (m : ME) : MS := fun ρ s => match ρ[i]? with
  | some (some x) => (m ρ s).st ρ fun y s1 => (f x y s1).st ρ fun z s2 => .ok (.nx (ρ.set i (some z))) s2
  | _ => .bad
section
variable {X : Cx} {cl : Str → Option Addr} {W : Wish} {pos : Pos} {e c : Expr} {m mo mi : ME} {st : Stmt} {rest a b : List Stmt} {ms mr ma mb : MS} {mt : MT}
theorem ss_nil : SSs X cl W [] ssNil := ⟨_, pss_nil, fun Dn σ H ρ ι s e r h => h ι H σ (Ext.refl _ _) r e⟩
theorem ss_cons (h1 : SS X cl W st ms) (h2 : SSs X cl W rest mr) : SSs X cl W (st :: rest) (ssCons ms mr) := by
  obtain ⟨t, p1, q1⟩ := h1.ex
  obtain ⟨u, p2, q2⟩ := h2.ex
  refine ⟨_, pss_cons p1 p2, fun Dn σ H ρ ι s e r h => ?_⟩
  unfold ssCons RS.andThen at h
  refine q1 _ σ H ρ ι s e r ?_
  cases hr : ms ρ s with
  | bad => rw [hr] at h; exact h
  | exc x ρ1 s1 => rw [hr] at h; exact h
  | ok c1 s1 =>
    rw [hr] at h
    cases c1 with
    | nx ρ1 => exact fun ι1 H1 σ1 x1 r1 e1 => q2 Dn σ1 H1 ρ1 ι1 s1 e1 r1 (PoS.ext x1 h)
    | rt d => exact h
    | bk ρ1 => exact h
    | ct ρ1 => exact h
theorem ss_one (h1 : SS X cl W st ms) : SSs X cl W [st] ms := by
  obtain ⟨t, p1, q1⟩ := h1.ex
  exact ⟨_, pss_one p1, q1⟩
theorem ss_pass : SS X cl W (.Pass pos) sPass := ⟨_, ps_pass, fun Dn σ H ρ ι s e r h => h ι H σ (Ext.refl _ _) r e⟩
theorem ss_break : SS X cl W (.Break pos) sBreak := ⟨_, ps_break, fun Dn σ H ρ ι s e r h => h ι H σ (Ext.refl _ _) r e⟩
theorem ss_cont : SS X cl W (.Continue pos) sCont := ⟨_, ps_continue, fun Dn σ H ρ ι s e r h => h ι H σ (Ext.refl _ _) r e⟩
theorem ss_never : SS X cl W st sNever := ⟨_, ps_never, fun Dn σ H ρ ι s e r h => h⟩
theorem sss_never : SSs X cl W rest sNever := ⟨_, pss_never, fun Dn σ H ρ ι s e r h => h⟩
theorem ss_expr (he : SE X cl W e m) (hs : swapsWith e none pos.line X.env = pure false := by rfl) : SS X cl W (.Expr e pos) (sExpr m) := by
  obtain ⟨t, p, q⟩ := he.ex
  refine ⟨_, ps_expr p hs, fun Dn σ H ρ ι s en r h => ?_⟩
  exact q σ H _ ρ ι s en r (PoS.stepE en h fun d s1 ι1 H1 v e1 x1 r1 d1 h1 => h1 ι1 H1 σ (Ext.refl _ _) r1 (en.ext x1))
theorem ss_doc {x j pos'} : SS X cl W (.Expr (.Constant (.str x) j pos) pos') sPass := ⟨_, ps_doc, fun Dn σ H ρ ι s e r h => h ι H σ (Ext.refl _ _) r e⟩
theorem ss_ret (he : SE X cl W e m) : SS X cl W (.Return (some e) pos) (sRet m) := by
  obtain ⟨t, p, q⟩ := he.ex
  refine ⟨_, ps_ret p, fun Dn σ H ρ ι s en r h => ?_⟩
  exact q σ H _ ρ ι s en r (PoS.stepE en h fun d s1 ι1 H1 v e1 x1 r1 d1 h1 => h1 ι1 H1 v (Ext.refl _ _) r1 d1)
theorem ss_retN : SS X cl W (.Return none pos) sRetN := ⟨_, ps_retN, fun Dn σ H ρ ι s e r h => h ι H .non (Ext.refl _ _) r .non⟩
theorem ss_if (hc : SB X cl W c mt) (ha : SSs X cl W a ma) (hb : SSs X cl W b mb) : SS X cl W (.If c a b pos) (sIf mt ma mb) := by
  obtain ⟨t, p, q⟩ := hc.ex
  obtain ⟨ta, pa, qa⟩ := ha.ex
  obtain ⟨tb, pb, qb⟩ := hb.ex
  refine ⟨_, ps_if p pa pb, fun Dn σ H ρ ι s en r h => ?_⟩
  refine q σ H _ ρ ι s en r (PoS.stepT en h fun k s1 ι1 H1 e1 x1 r1 h1 => ?_)
  cases k with
  | true => exact qa Dn σ H1 ρ ι1 s1 (en.ext x1) r1 h1
  | false => exact qb Dn σ H1 ρ ι1 s1 (en.ext x1) r1 h1
/-- a name = e -/
theorem ss_set {x : Str} {pos' : Pos} (i : Nat) (hN : X.N.Nodup) (he : SE X cl W e m) (hi : X.N[i]? = some x := by rfl) (hx : Loc X.env.scope x := by first | exact Or.inl rfl | exact Or.inr rfl)
    (hs : swapsWith e (some (.Name x pos')) pos.line X.env = pure false := by rfl) (hf : X.fn x = true ∨ X.env.scope.names.lookup x = some .local := by first | exact .inl rfl | exact .inr rfl) : SS X cl W (.Assign [.Name x pos'] e pos) (sSet i m) := by
  obtain ⟨t, p, q⟩ := he.ex
  refine ⟨_, ps_set hN hi hx p hs hf, fun Dn σ H ρ ι s en r h => ?_⟩
  exact q σ H _ ρ ι s en r (PoS.stepE en h fun d s1 ι1 H1 v e1 x1 r1 d1 h1 => h1 ι1 H1 _ (Ext.refl _ _) r1 ((en.ext x1).set d1))
/-! targets -/
structure SG (X : Cx) (cl : Str → Option Addr) (W : Wish) (tg : Expr) (g : MG) : Prop where
  ex : ∃ t, PG X tg t ∧ ∀ d v σ H (Q : L2.St → Hp → Prop) ρ ι s, RelE X.K X.w cl ι H ρ σ → RelS X.K X.w cl ι s H → RelD X.K X.w cl ι H d v →
    (∃ ρ1 s1, g d ρ s = .ok ρ1 s1 ∧ ∀ ι' H' σ', Ext ι H ι' H' → RelS X.K X.w cl ι' s1 H' → RelE X.K X.w cl ι' H' ρ1 σ' → Q σ' H') → t v σ H Q
structure SGs (X : Cx) (cl : Str → Option Addr) (W : Wish) (tgs : List Expr) (g : MGs) : Prop where
  ex : ∃ t, PGs X tgs t ∧ ∀ ds vs σ H (Q : L2.St → Hp → Prop) ρ ι s, RelE X.K X.w cl ι H ρ σ → RelS X.K X.w cl ι s H → RelDs X.K X.w cl ι H ds vs →
    (∃ ρ1 s1, g ds ρ s = .ok ρ1 s1 ∧ ∀ ι' H' σ', Ext ι H ι' H' → RelS X.K X.w cl ι' s1 H' → RelE X.K X.w cl ι' H' ρ1 σ' → Q σ' H') → t vs σ H Q
theorem sg_name {x : Str} (i : Nat) (hN : X.N.Nodup) (hi : X.N[i]? = some x := by rfl) (hx : Loc X.env.scope x := by first | exact Or.inl rfl | exact Or.inr rfl)
    (hf : X.fn x = true ∨ X.env.scope.names.lookup x = some .local := by first | exact .inl rfl | exact .inr rfl) : SG X cl W (.Name x pos) (gSlot i) := by
  refine ⟨_, pg_name hN hi hx hf, fun d v σ H Q ρ ι s en r rd ⟨ρ1, s1, e1, h⟩ => ?_⟩
  cases e1
  exact h ι H _ (Ext.refl _ _) r (en.set rd)
theorem sgs_nil : SGs X cl W [] gsNil := by
  refine ⟨_, pgs_nil, fun ds vs σ H Q ρ ι s en r rd ⟨ρ1, s1, e1, h⟩ => ?_⟩
  unfold gsNil at e1
  cases rd with
  | nil => cases e1; exact ⟨rfl, h ι H _ (Ext.refl _ _) r en⟩
  | cons _ _ => cases e1
theorem sgs_cons {tg : Expr} {tgs : List Expr} {g : MG} {gr : MGs} (h1 : SG X cl W tg g) (h2 : SGs X cl W tgs gr)
    (hs : (assignEach (tg :: tgs) X.env).map (·.2) = assign tg X.env :: (assignEach tgs X.env).map (·.2) := by rfl) : SGs X cl W (tg :: tgs) (gsCons g gr) := by
  obtain ⟨t, p, q⟩ := h1.ex
  obtain ⟨u, p2, q2⟩ := h2.ex
  refine ⟨_, pgs_cons p p2 hs, fun ds vs σ H Q ρ ι s en r rd ⟨ρ1, s1, e1, h⟩ => ?_⟩
  unfold gsCons at e1
  cases rd with
  | nil => cases e1
  | @cons d v ds vs rd rds =>
    refine ⟨v, vs, rfl, q d v σ H _ ρ ι s en r rd ?_⟩
    cases e2 : g d ρ s with
    | ok ρ2 s2 =>
      refine ⟨ρ2, s2, rfl, fun ι2 H2 σ2 x2 r2 en2 => ?_⟩
      simp only [e2, R.bind] at e1
      exact q2 ds vs σ2 H2 Q ρ2 ι2 s2 en2 r2 (rds.ext x2) ⟨ρ1, s1, e1, fun ι3 H3 σ3 x3 => h ι3 H3 σ3 (x2.trans x3)⟩
    | exc x s2 => simp only [e2, R.bind] at e1; cases e1
    | bad => simp only [e2, R.bind] at e1; cases e1
theorem sg_tup {es : List Expr} {k n : Nat} {gr : MGs} (hc : X.calm = true) (h : SGs X cl W es gr) (hn : (assignEach es X.env).length = n := by rfl) (hst : (assignEach es X.env).findIdx? (·.1) = none := by rfl) : SG X cl W (.Tuple es k pos) (gTupD n gr) := by
  obtain ⟨t, p, q⟩ := h.ex
  refine ⟨_, pg_tup hc p hn hst, fun d v σ H Q ρ ι s en r rd ⟨ρ1, s1, e1, h⟩ => ?_⟩
  unfold gTupD at e1
  cases rd with
  | @tup ds a vs ht rt =>
    simp only at e1
    split at e1
    · rename_i hl
      exact ⟨a, vs, rfl, ht.sq, by rw [← rt.length]; exact hl, q ds vs σ H Q ρ ι s en r rt ⟨ρ1, s1, e1, h⟩⟩
    · cases e1
  | _ => cases e1
def AnySet (X : Cx) : TSet := fun o i v H Q => ∃ t, PSet X t ∧ t o i v H Q
theorem anySet : PSet X (AnySet X) := fun pins s σ H o i v ov iv u Q I ro ri rv ⟨t, p, h⟩ => p pins s σ H o i v ov iv u Q I ro ri rv h
theorem sg_sub {o i : Expr} (ho : SE X cl W o mo) (hi : SE X cl W i mi)
    (ha : ∀ v, assign (.Subscript o i pos) X.env v = (do
      let ov ← holding [v] (eval o X.env)
      let iv ← holding [v, ov] (eval i X.env)
      standAt pos
      holding [v, ov, iv] (setItem ov iv v)
      release [v, ov, iv] []) := by intro _; rfl) : SG X cl W (.Subscript o i pos) (gSubD mo mi) := by
  obtain ⟨t, p, q⟩ := ho.ex
  obtain ⟨u, p2, q2⟩ := hi.ex
  refine ⟨_, pg_sub p p2 anySet ha, fun d v σ H Q ρ ι s en r rd ⟨ρ1, s1, e1, h⟩ => ?_⟩
  unfold gSubD at e1
  refine q σ H _ ρ ι s en r ?_
  cases e2 : mo ρ s with
  | bad => simp only [e2, R.bind] at e1; cases e1
  | exc x s2 => simp only [e2, R.bind] at e1; cases e1
  | ok x s2 =>
  simp only [e2, R.bind] at e1
  intro ι2 H2 v2 x2 r2 rx
  refine q2 σ H2 _ ρ ι2 s2 (en.ext x2) r2 ?_
  cases e3 : mi ρ s2 with
  | bad => simp only [e3] at e1; cases e1
  | exc x s3 => simp only [e3] at e1; cases e1
  | ok y s3 =>
  simp only [e3] at e1
  intro ι3 H3 v3 x3 r3 ry
  split at e1
  · rename_i s4 e4
    cases e1
    unfold dStore at e4
    split at e4
    · rename_i n k
      split at e4
      · rename_i xs e5
        split at e4
        · rename_i j e6
          cases e4
          have rx3 := rx.ext x3
          cases rx3 with
          | ref hn =>
          cases ry
          obtain ⟨a', ea, vs, hv, rv⟩ := r3.at_ n _ e5
          rw [hn] at ea
          obtain rfl := Option.some.inj ea
          rename_i a'
          refine ⟨_, set_list, a', vs, k, j, rfl, rfl, hv, by rw [← rv.length]; exact e6, ?_⟩
          have hm : a' ∈ ι3 := List.mem_of_getElem? hn
          have xw : Ext ι3 H3 ι3 (upd H3 a' (.lst (vs.set j v))) := Ext.write hm
          exact h ι3 _ σ ((x2.trans x3).trans xw) (r3.write hn ⟨_, upd_same, (RelDs.set ((rd.ext x2).ext x3) j rv).ext xw⟩) (((en.ext x2).ext x3).ext xw)
        · cases e4
      · cases e4
    · cases e4
  · cases e1
theorem ss_asg {tg : Expr} {g : MG} (he : SE X cl W e m) (hg : SG X cl W tg g) (hs : swapsWithSole [tg] e pos.line X.env = pure false := by rfl) (hw : swappedStores [tg] e X.env = pure none := by rfl) (ha : (assignEach [tg] X.env).map (·.2) = [assign tg X.env] := by rfl) : SS X cl W (.Assign [tg] e pos) (sAsg m g) := by
  obtain ⟨t, p, q⟩ := he.ex
  obtain ⟨u, p2, q2⟩ := hg.ex
  refine ⟨_, ps_asg p p2 hs hw ha, fun Dn σ H ρ ι s en r h => ?_⟩
  refine q σ H _ ρ ι s en r (PoS.stepE en h fun d s1 ι1 H1 v e1 x1 r1 d1 h1 => ?_)
  refine q2 d v σ H1 _ ρ ι1 s1 (en.ext x1) r1 d1 ?_
  cases e2 : g d ρ s1 with
  | ok ρ2 s2 => simp only [e2] at h1; exact ⟨ρ2, s2, rfl, h1⟩
  | exc x s2 => simp only [e2] at h1; exact False.elim h1
  | bad => simp only [e2] at h1; exact False.elim h1
/-! op= -/
def AnyIp (X : Cx) (op : Operator) : TIp := fun x y H Q => ∃ t, PIp X op t ∧ t x y H Q
theorem anyIp {op : Operator} : PIp X op (AnyIp X op) := fun pins s σ H x y v u Q I rx ry ⟨t, p, h⟩ => p pins s σ H x y v u Q I rx ry h
def IpD (X : Cx) (cl : Str → Option Addr) (op : Operator) (g : D → D → S → R D) : Prop :=
  ∀ (W : Wish) (ι : List Addr) (H : Hp) (σ : L2.St) (Q : VK) (s : S) (dx dy : D) (x y : V), RelS X.K X.w cl ι s H → RelD X.K X.w cl ι H dx x → RelD X.K X.w cl ι H dy y → PoE X.K X.w cl W ι H σ Q (g dx dy s) → AnyIp X op x y H Q
def dIAdd : D → D → S → R D
  | .int a, .int b, s => .ok (.int (a + b)) s
  | .str a, .str b, s => if a.length + b.length ≤ sizeLine then .ok (.str (a ++ b)) s else .bad
  | _, _, _ => .bad
theorem d_iadd : IpD X cl .Add dIAdd := by
  intro W ι H σ Q s dx dy x y rs rx ry h
  unfold dIAdd at h
  split at h
  · cases rx; cases ry
    exact ⟨_, ip_add, _, _, rfl, rfl, h ι H _ (Ext.refl _ _) rs (.int _)⟩
  · cases rx; cases ry
    split at h
    · exact ⟨_, iop_add_str, _, _, rfl, rfl, by assumption, h ι H _ (Ext.refl _ _) rs (.str _)⟩
    · exact False.elim h
  · exact False.elim h
theorem ss_aug {x : Str} {pos' : Pos} {op : Operator} {g : D → D → S → R D} (i : Nat) (hN : X.N.Nodup) (ho : IpD X cl op g) (he : SE X cl W e m) (hi : X.N[i]? = some x := by rfl) (hx : Loc X.env.scope x := by first | exact Or.inl rfl | exact Or.inr rfl)
    (hf : X.fn x = true ∨ X.env.scope.names.lookup x = some .local := by first | exact .inl rfl | exact .inr rfl) : SS X cl W (.AugAssign (.Name x pos') op e pos) (sAug i g m) := by
  obtain ⟨t, p, q⟩ := he.ex
  refine ⟨_, ps_aug hN hi hx p anyIp hf, fun Dn σ H ρ ι s en r h => ?_⟩
  unfold sAug at h
  split at h
  · rename_i d ed
    obtain ⟨v, ev, rd⟩ := en.at_ i d ed
    refine ⟨v, ev, q σ H _ ρ ι s en r (PoS.stepE en h fun d1 s1 ι1 H1 v1 e1 x1 r1 rd1 h1 => ?_)⟩
    refine ho W ι1 H1 σ _ s1 d d1 v v1 r1 (rd.ext x1) rd1 (PoS.stepE (en.ext x1) h1 fun d2 s2 ι2 H2 v2 e2 x2 r2 rd2 h2 => ?_)
    exact h2 ι2 H2 _ (Ext.refl _ _) r2 (((en.ext x1).ext x2).set rd2)
  · exact False.elim h
end

/-! ### loops -/
def gOk : Option Nat → List D → S → Prop
  | none, _, _ => True
  | some n, l, s => s[n]? = some (.lst l)
open Classical in
noncomputable def forL (gd : Option Nat) (all : List D) (g : MG) (b : MS) : List D → Rho → S → RS
  | [], ρ, s => if gOk gd all s then .ok (.nx ρ) s else .bad
  | x :: xs, ρ, s => if gOk gd all s then match g x ρ s with
    | .ok ρ1 s1 => match b ρ1 s1 with
      | .ok (.nx ρ2) s2 => forL gd all g b xs ρ2 s2
      | .ok (.ct ρ2) s2 => forL gd all g b xs ρ2 s2
      | .ok (.bk ρ2) s2 => .ok (.nx ρ2) s2
      | .ok (.rt d) s2 => .ok (.rt d) s2
      | .exc x ρ2 s2 => .exc x ρ2 s2
      | .bad => .bad
    | _ => .bad
    else .bad
abbrev MI := Rho → S → R (List D × Option Nat)
noncomputable def sFor (it : MI) (g : MG) (b : MS) : MS := fun ρ s => (it ρ s).st ρ fun p s1 => forL p.2 p.1 g b p.1 ρ s1
/-- a heap without what stands at an address -/
def hd : Option Addr → Hp → Hp
  | none, H => H
  | some a, H => fun b => if b = a then none else H b
theorem hd_none {H : Hp} : hd none H = H := rfl
theorem hd_ne {a b : Addr} {H : Hp} (h : b ≠ a) : hd (some a) H b = H b := if_neg h
theorem hd_self {a : Addr} {H : Hp} : hd (some a) H a = none := if_pos rfl
/-- the items come in their order; z: an address that is hidden from the data (a comprehension's own list) -/
def ItOk (K : PySem.W.Frag) (w : World) (cl : Str → Option Addr) (p : List D × Option Nat) (J : It) (ι0 : List Addr) (H0 : Hp) : Prop :=
  ∀ (z : Option Addr) (i : Nat) (ι : List Addr) (H : Hp) (s : S), (∀ a, z = some a → H a ≠ none) → Ext ι0 H0 ι (hd z H) → RelS K w cl ι s (hd z H) → gOk p.2 p.1 s →
    (i < p.1.length → J.go i H ∧ ∀ x H', J.yld i H x H' → (∀ a, z = some a → H' a = H a) ∧ ∃ d, p.1[i]? = some d ∧ Ext ι (hd z H) ι (hd z H') ∧ RelS K w cl ι s (hd z H') ∧ RelD K w cl ι (hd z H') d x) ∧ (i = p.1.length → J.stop i H)
structure SI (X : Cx) (cl : Str → Option Addr) (W : Wish) (tg iter : Expr) (m : MI) : Prop where
  ex : ∃ wi, PI X tg iter wi ∧ ∀ (σ : L2.St) (H : Hp) (Q : It → Hp → Prop) ρ ι s, RelE X.K X.w cl ι H ρ σ → RelS X.K X.w cl ι s H →
    (match m ρ s with
      | .ok p s1 => ∀ ι' H' J, Ext ι H ι' H' → RelS X.K X.w cl ι' s1 H' → ItOk X.K X.w cl p J ι' H' → Q J H'
      | .exc x s1 => ∀ ι' H' c d, Ext ι H ι' H' → RelS X.K X.w cl ι' s1 H' → RelX X.K X.w cl ι' H' x c d → W c d σ H'
      | .bad => False) → wi σ H Q
section
variable {X : Cx} {cl : Str → Option Addr} {W : Wish} {pos : Pos} {tg iter c : Expr} {body : List Stmt} {it : MI} {g : MG} {b : MS} {mt : MT}
theorem ss_for (hp : PassesOwn (model X.prog X.w) X.A X.env X.xe) (hc : X.calm = true) (hi : SI X cl W tg iter it) (hg : SG X cl W tg g) (hb : SSs X cl W body b)
    (hs : ∀ x, foldedSetIterable iter X.env x = pure x := by intro _; rfl) : SS X cl W (.For tg iter body [] pos) (sFor it g b) := by
  obtain ⟨wi, p1, q1⟩ := hi.ex
  obtain ⟨tg', p2, q2⟩ := hg.ex
  obtain ⟨tb, p3, q3⟩ := hb.ex
  refine ⟨_, ps_for hp hc p1 p2 p3 hs, fun Dn σ H ρ ι s en r h => ?_⟩
  unfold sFor at h
  refine q1 σ H _ ρ ι s en r ?_
  cases e1 : it ρ s with
  | bad => rw [e1] at h; exact h
  | exc x s1 => rw [e1] at h; exact fun ι2 H2 c dd x2 rs rx => h ι2 H2 σ c dd x2 rs (en.ext x2) rx
  | ok p s1 =>
  rw [e1] at h
  intro ι1 H1 J x1 r1 ok
  have h1 : PoS X.K X.w cl W ι1 H1 Dn (forL p.2 p.1 g b p.1 ρ s1) := PoS.ext x1 h
  refine ⟨fun i m σ' H' => m = p.1.length - i ∧ i ≤ p.1.length ∧ ∃ ρ' ι' s', Ext ι1 H1 ι' H' ∧ RelS X.K X.w cl ι' s' H' ∧ RelE X.K X.w cl ι' H' ρ' σ' ∧ PoS X.K X.w cl W ι' H' Dn (forL p.2 p.1 g b (p.1.drop i) ρ' s'),
    ⟨p.1.length, rfl, Nat.zero_le _, ρ, ι1, s1, Ext.refl _ _, r1, en.ext x1, h1⟩, ?_⟩
  rintro i m σ2 H2 ⟨rfl, hi2, ρ2, ι2, s2, x2, r2, en2, h2⟩
  by_cases hlt : i < p.1.length
  · have ed : p.1.drop i = p.1[i] :: p.1.drop (i + 1) := List.drop_eq_getElem_cons hlt
    rw [ed] at h2
    unfold forL at h2
    split at h2
    · rename_i hg2
      obtain ⟨go, yl⟩ := (ok none i ι2 H2 s2 (fun _ z => nomatch z) x2 r2 hg2).1 hlt
      refine .inr ⟨go, fun σ' H' => i + 1 ≤ p.1.length ∧ ∃ ρ' ι' s', Ext ι1 H1 ι' H' ∧ RelS X.K X.w cl ι' s' H' ∧ RelE X.K X.w cl ι' H' ρ' σ' ∧ PoS X.K X.w cl W ι' H' Dn (forL p.2 p.1 g b (p.1.drop (i + 1)) ρ' s'), fun σ' H' ⟨h5, h6⟩ => ⟨p.1.length - (i + 1), by omega, rfl, h5, h6⟩, fun x H3 y => ?_⟩
      obtain ⟨_, d, ed2, x3, r3, rd⟩ := yl x H3 y
      rw [hd_none, hd_none] at x3
      rw [hd_none] at r3 rd
      rw [List.getElem?_eq_getElem hlt] at ed2
      cases ed2
      refine q2 p.1[i] x σ2 H3 _ ρ2 ι2 s2 (en2.ext x3) r3 rd ?_
      cases e4 : g p.1[i] ρ2 s2 with
      | bad => rw [e4] at h2; exact False.elim h2
      | exc x s4 => rw [e4] at h2; exact False.elim h2
      | ok ρ4 s4 =>
      rw [e4] at h2
      refine ⟨ρ4, s4, rfl, fun ι4 H4 σ4 x4 r4 en4 => ?_⟩
      have h4 := PoS.ext (x3.trans x4) h2
      refine q3 _ σ4 H4 ρ4 ι4 s4 en4 r4 ?_
      simp only at h4
      have x14 := (x2.trans x3).trans x4
      cases e5 : b ρ4 s4 with
      | bad => rw [e5] at h4; exact h4
      | exc x ρ5 s5 => rw [e5] at h4; exact h4
      | ok c5 s5 =>
        rw [e5] at h4
        cases c5 with
        | nx ρ5 => exact fun ι5 H5 σ5 x5 r5 en5 => ⟨hlt, ρ5, ι5, s5, x14.trans x5, r5, en5, PoS.ext x5 h4⟩
        | ct ρ5 => exact fun ι5 H5 σ5 x5 r5 en5 => ⟨hlt, ρ5, ι5, s5, x14.trans x5, r5, en5, PoS.ext x5 h4⟩
        | bk ρ5 => exact h4
        | rt d5 => exact h4
    · exact False.elim h2
  · have e : p.1.drop i = [] := List.drop_eq_nil_of_le (by omega)
    rw [e] at h2
    unfold forL at h2
    split at h2
    · rename_i hg2
      exact .inl ⟨(ok none i ι2 H2 s2 (fun _ z => nomatch z) x2 r2 hg2).2 (by omega), h2 ι2 H2 σ2 (Ext.refl _ _) r2 en2⟩
    · exact False.elim h2
end
end Pm
namespace Pm
open PySem PySem.Spec PyProof.Rows L2

/-! ### what a for walks -/
def iSeq (m : ME) : MI := fun ρ s => (m ρ s).bind fun d s1 => match d with
  | .lst xs => .ok (xs, none) s1
  | .ref n => (match s1[n]? with
    | some (.lst xs) => .ok (xs, some n) s1
    | _ => .bad)
  | _ => .bad
def iTupD (m : ME) : MI := fun ρ s => (m ρ s).bind fun d s1 => match d with
  | .tup xs => .ok (xs, none) s1
  | _ => .bad
def iStrD (m : ME) : MI := fun ρ s => (m ρ s).bind fun d s1 => match d with
  | .str x => .ok (x.cps.toList.map fun c => .str ⟨#[c]⟩, none) s1
  | _ => .bad
def rng (lo : Int) (n : Nat) : List D := (List.range n).map fun i => .int (lo + (i : Nat))
def iRange1 (m : ME) : MI := fun ρ s => (m ρ s).bind fun d s1 => match d with
  | .int j => if -(2 ^ 62) ≤ j ∧ j < 2 ^ 62 then .ok (rng 0 j.toNat, none) s1 else .bad
  | _ => .bad
def iRange2 (m1 m2 : ME) : MI := fun ρ s => (m1 ρ s).bind fun d s1 => (m2 ρ s1).bind fun e s2 => match d, e with
  | .int i, .int j => if -(2 ^ 62) ≤ i ∧ i < 2 ^ 62 ∧ -(2 ^ 62) ≤ j ∧ j < 2 ^ 62 then .ok (rng i (j - i).toNat, none) s2 else .bad
  | _, _ => .bad
section
variable {K : PySem.W.Frag} {w : World} {cl : Str → Option Addr} {ι ι' : List Addr} {H H' : Hp} {z : Option Addr}
theorem hd_some {a : Addr} {o : HO} (h : hd z H a = some o) : H a = some o := by
  cases z with
  | none => exact h
  | some b =>
    unfold hd at h
    simp only at h
    split at h
    · cases h
    · exact h
theorem rd_act {a : Addr} {u : HO} (h : Rd (hd z H) a u) : Rd H a u := by
  rcases h with h | ⟨o, h⟩
  · exact .inl (hd_some h)
  · exact .inr ⟨o, hd_some h⟩
theorem SL.act {a : Addr} {xs : List V} (h : SL K ι (hd z H) a xs) : SqL K H a xs := by
  rcases h with ⟨h, n⟩ | h
  · exact .inl (rd_act h)
  · exact .inr h
theorem ST.act {a : Addr} {xs : List V} (h : ST K ι (hd z H) a xs) : SqT K H a xs := by
  rcases h with ⟨h, n⟩ | h
  · exact .inl (rd_act h)
  · exact .inr h
/-- items of a list of data, one by one -/
theorem list_ok {ds : List D} {gd : Option Nat} {a : Addr} {ι1 : List Addr} {H1 : Hp}
    (h : ∀ z ι H s, Ext ι1 H1 ι (hd z H) → RelS K w cl ι s (hd z H) → gOk gd ds s → ∃ vs, SqL K H a vs ∧ RelDs K w cl ι (hd z H) ds vs) : ItOk K w cl (ds, gd) (Itl K a) ι1 H1 := by
  intro z i ι2 H2 s2 hz x2 r2 g2
  obtain ⟨vs, hl2, rl2⟩ := h z ι2 H2 s2 x2 r2 g2
  refine ⟨fun hi => ?_, fun hi => ?_⟩
  · obtain ⟨v, ev, rv⟩ := rl2.get (List.getElem?_eq_getElem hi)
    refine ⟨⟨_, v, hl2, ev⟩, fun x H' ⟨eH, y⟩ => ?_⟩
    subst eH
    have ex := y _ hl2
    rw [ev] at ex
    cases ex
    exact ⟨fun _ _ => rfl, _, List.getElem?_eq_getElem hi, Ext.refl _ _, r2, rv⟩
  · exact ⟨_, hl2, by rw [← rl2.length]; exact Nat.le_of_eq hi.symm⟩
theorem tup_ok {ds : List D} {a : Addr} {ι1 : List Addr} {H1 : Hp}
    (h : ∀ z ι H s, Ext ι1 H1 ι (hd z H) → RelS K w cl ι s (hd z H) → ∃ vs, SqT K H a vs ∧ RelDs K w cl ι (hd z H) ds vs) : ItOk K w cl (ds, none) (Itt K a) ι1 H1 := by
  intro z i ι2 H2 s2 hz x2 r2 g2
  obtain ⟨vs, hl2, rl2⟩ := h z ι2 H2 s2 x2 r2
  refine ⟨fun hi => ?_, fun hi => ?_⟩
  · obtain ⟨v, ev, rv⟩ := rl2.get (List.getElem?_eq_getElem hi)
    refine ⟨⟨_, v, hl2, ev⟩, fun x H' ⟨eH, y⟩ => ?_⟩
    subst eH
    have ex := y _ hl2
    rw [ev] at ex
    cases ex
    exact ⟨fun _ _ => rfl, _, List.getElem?_eq_getElem hi, Ext.refl _ _, r2, rv⟩
  · exact ⟨_, hl2, by rw [← rl2.length]; exact Nat.le_of_eq hi.symm⟩
theorem rng_ok {lo : Int} {n : Nat} {ι : List Addr} {H : Hp} : ItOk K w cl (rng lo n, none) (Itr lo n) ι H := by
  intro z i ι2 H2 s2 hz x2 r2 _
  refine ⟨fun hi => ?_, fun hi => ?_⟩
  · have hi' : i < n := by simpa [rng] using hi
    refine ⟨hi', fun y H' ⟨eH, ey⟩ => ?_⟩
    subst eH ey
    refine ⟨fun _ _ => rfl, .int (lo + i), ?_, Ext.refl _ _, r2, .int _⟩
    show (rng lo n)[i]? = _
    unfold rng
    rw [List.getElem?_map, List.getElem?_range hi']
    rfl
  · have hi' : n ≤ i := Nat.le_of_eq (by simpa [rng] using hi.symm)
    exact hi'
theorem str_ok {x : Str} {ι : List Addr} {H : Hp} : ItOk K w cl (x.cps.toList.map fun c => D.str ⟨#[c]⟩, none) (Its x) ι H := by
  intro z i ι2 H2 s2 hz x2 r2 _
  refine ⟨fun hi => ?_, fun hi => ?_⟩
  · have hi' : i < x.cps.size := by simpa using hi
    refine ⟨hi', fun y H' ⟨eH, c, ec, ey⟩ => ?_⟩
    subst eH ey
    refine ⟨fun _ _ => rfl, .str ⟨#[c]⟩, ?_, Ext.refl _ _, r2, .str _⟩
    rw [List.getElem?_map, Array.getElem?_toList, ec]
    rfl
  · have hi' : x.cps.size ≤ i := Nat.le_of_eq (by simpa using hi.symm)
    exact hi'
end
section
variable {X : Cx} {cl : Str → Option Addr} {W : Wish} {pos p : Pos} {tg e e2 : Expr} {m mb : ME}
theorem si_seq (he : SE X cl W e m) : SI X cl W tg e (iSeq m) := by
  obtain ⟨t, p, q⟩ := he.ex
  refine ⟨_, pi_list p, fun σ H Q ρ ι s en r h => ?_⟩
  unfold iSeq at h
  refine q σ H _ ρ ι s en r ?_
  cases e1 : m ρ s with
  | bad => rw [e1] at h; exact h
  | exc x s1 => rw [e1] at h; exact h
  | ok d s1 =>
  rw [e1] at h
  intro ι1 H1 v x1 r1 rd
  simp only [R.bind] at h
  cases rd with
  | @lst ds a vs hl rl => exact ⟨a, rfl, ⟨_, hl.sq⟩, h ι1 H1 _ x1 r1 (list_ok fun z ι H s x r _ => ⟨_, (hl.ext x).act, rl.ext x⟩)⟩
  | @ref n a hn =>
    simp only at h
    cases e5 : s1[n]? with
    | none => rw [e5] at h; exact False.elim h
    | some o =>
    cases o with
    | ins c fs => rw [e5] at h; exact False.elim h
    | lst xs =>
    rw [e5] at h
    obtain ⟨a', ea, vs, hv, rv⟩ := r1.at_ n _ e5
    rw [hn] at ea
    obtain rfl := Option.some.inj ea
    refine ⟨_, rfl, ⟨_, SqL.of hv⟩, h ι1 H1 _ x1 r1 (list_ok fun z ι H s x r g => ?_)⟩
    obtain ⟨a2, ea2, vs2, hv2, rv2⟩ := r.at_ n _ g
    rw [x.at hn] at ea2
    obtain rfl := Option.some.inj ea2
    exact ⟨_, SqL.of (hd_some hv2), rv2⟩
  | _ => exact False.elim h
theorem si_tup (he : SE X cl W e m) : SI X cl W tg e (iTupD m) := by
  obtain ⟨t, p, q⟩ := he.ex
  refine ⟨_, pi_tup p, fun σ H Q ρ ι s en r h => ?_⟩
  unfold iTupD at h
  refine q σ H _ ρ ι s en r ?_
  cases e1 : m ρ s with
  | bad => rw [e1] at h; exact h
  | exc x s1 => rw [e1] at h; exact h
  | ok d s1 =>
  rw [e1] at h
  intro ι1 H1 v x1 r1 rd
  simp only [R.bind] at h
  cases rd with
  | @tup ds a vs hl rl => exact ⟨a, rfl, ⟨_, hl.sq⟩, h ι1 H1 _ x1 r1 (tup_ok fun z ι H s x r => ⟨_, (hl.ext x).act, rl.ext x⟩)⟩
  | _ => exact False.elim h
theorem si_str (he : SE X cl W e m) : SI X cl W tg e (iStrD m) := by
  obtain ⟨t, p, q⟩ := he.ex
  refine ⟨_, pi_str p, fun σ H Q ρ ι s en r h => ?_⟩
  unfold iStrD at h
  refine q σ H _ ρ ι s en r ?_
  cases e1 : m ρ s with
  | bad => rw [e1] at h; exact h
  | exc x s1 => rw [e1] at h; exact h
  | ok d s1 =>
  rw [e1] at h
  intro ι1 H1 v x1 r1 rd
  simp only [R.bind] at h
  cases rd with
  | str x => exact ⟨x, rfl, h ι1 H1 _ x1 r1 str_ok⟩
  | _ => exact False.elim h
/-- a list, a tuple or a text, whichever comes -/
def iAny (m : ME) : MI := fun ρ s => (m ρ s).bind fun d s1 => match d with
  | .lst xs => .ok (xs, none) s1
  | .tup xs => .ok (xs, none) s1
  | .str x => .ok (x.cps.toList.map fun c => .str ⟨#[c]⟩, none) s1
  | .ref n => (match s1[n]? with
    | some (.lst xs) => .ok (xs, some n) s1
    | _ => .bad)
  | _ => .bad
theorem si_any (he : SE X cl W e m) : SI X cl W tg e (iAny m) := by
  obtain ⟨w1, p1, q1⟩ := (si_seq (tg := tg) he).ex
  obtain ⟨w2, p2, q2⟩ := (si_tup (tg := tg) he).ex
  obtain ⟨w3, p3, q3⟩ := (si_str (tg := tg) he).ex
  refine ⟨fun σ H R => w1 σ H R ∨ w2 σ H R ∨ w3 σ H R, ⟨fun pins s σ H R I h => ?_⟩, fun σ H Q ρ ι s en r h => ?_⟩
  · rcases h with h | h | h
    · exact p1.run pins s σ H R I h
    · exact p2.run pins s σ H R I h
    · exact p3.run pins s σ H R I h
  unfold iAny at h
  cases e1 : m ρ s with
  | bad => rw [e1] at h; exact h.elim
  | exc x s1 => exact .inl (q1 σ H Q ρ ι s en r (by unfold iSeq; rw [e1] at h ⊢; exact h))
  | ok d s1 =>
    cases d with
    | tup xs => exact .inr (.inl (q2 σ H Q ρ ι s en r (by unfold iTupD; rw [e1] at h ⊢; exact h)))
    | str x => exact .inr (.inr (q3 σ H Q ρ ι s en r (by unfold iStrD; rw [e1] at h ⊢; exact h)))
    | _ => exact .inl (q1 σ H Q ρ ι s en r (by unfold iSeq; rw [e1] at h ⊢; exact h))
theorem si_range1 (hg : Gl X "range") (hm : X.mg "range" = none) (he : SE X cl W e m) (hs : starEach [e] X.env = [(false, eval e X.env)] := by rfl) : SI X cl W tg (.Call (.Name "range" p) [e] [] pos) (iRange1 m) := by
  obtain ⟨t, p, q⟩ := he.ex
  refine ⟨_, pi_range1 hg hm (pa_cons p pa_nil (by rw [hs]; rfl)) hs, fun σ H Q ρ ι s en r h => ?_⟩
  unfold iRange1 at h
  refine q σ H _ ρ ι s en r ?_
  cases e1 : m ρ s with
  | bad => rw [e1] at h; exact h
  | exc x s1 => rw [e1] at h; exact h
  | ok d s1 =>
  rw [e1] at h
  intro ι1 H1 v x1 r1 rd
  simp only [R.bind] at h
  cases rd with
  | int j =>
    simp only at h
    by_cases hj : -(2 ^ 62) ≤ j ∧ j < 2 ^ 62
    · rw [if_pos hj] at h
      exact ⟨j, rfl, hj.1, hj.2, h ι1 H1 _ x1 r1 rng_ok⟩
    · rw [if_neg hj] at h; exact False.elim h
  | _ => exact False.elim h
theorem si_range2 (hg : Gl X "range") (hm : X.mg "range" = none) (he : SE X cl W e m) (hb : SE X cl W e2 mb) (hs : starEach [e, e2] X.env = [(false, eval e X.env), (false, eval e2 X.env)] := by rfl) (hs2 : starEach [e2] X.env = [(false, eval e2 X.env)] := by rfl) :
    SI X cl W tg (.Call (.Name "range" p) [e, e2] [] pos) (iRange2 m mb) := by
  obtain ⟨t, p, q⟩ := he.ex
  obtain ⟨u, p2, q2⟩ := hb.ex
  refine ⟨_, pi_range2 hg hm (pa_cons p (pa_cons p2 pa_nil (by rw [hs2]; rfl)) (by rw [hs, hs2])) hs hs2, fun σ H Q ρ ι s en r h => ?_⟩
  unfold iRange2 at h
  refine q σ H _ ρ ι s en r ?_
  cases e1 : m ρ s with
  | bad => rw [e1] at h; exact h
  | exc x s1 => rw [e1] at h; exact h
  | ok d s1 =>
  rw [e1] at h
  intro ι1 H1 v x1 r1 rd
  simp only [R.bind] at h
  refine q2 σ H1 _ ρ ι1 s1 (en.ext x1) r1 ?_
  cases e3 : mb ρ s1 with
  | bad => rw [e3] at h; exact h
  | exc x s2 => rw [e3] at h; exact fun ι2 H2 c dd x2 => h ι2 H2 c dd (x1.trans x2)
  | ok d2 s2 =>
  rw [e3] at h
  intro ι2 H2 v2 x2 r2 rd2
  simp only at h
  cases rd with
  | int i =>
    cases rd2 with
    | int j =>
      simp only at h
      by_cases hj : -(2 ^ 62) ≤ i ∧ i < 2 ^ 62 ∧ -(2 ^ 62) ≤ j ∧ j < 2 ^ 62
      · rw [if_pos hj] at h
        exact ⟨i, j, rfl, hj, h ι2 H2 _ (x1.trans x2) r2 rng_ok⟩
      · rw [if_neg hj] at h; exact False.elim h
    | _ => exact False.elim h
  | _ => exact False.elim h
end
end Pm
namespace Pm
open PySem PySem.Spec PyProof.Rows L2

/-! ### a list that is being made is hidden while its items are reckoned -/
section
variable {X : Cx}
theorem fs_none {pins : List (Addr × Obj)} {σ : L2.St} {H : Hp} {s : Shared} (I : Inv X pins σ H s) {b : Addr} (hb : b ∈ X.fs) : H b = none := by
  obtain ⟨_, o, ho, _⟩ := I.ok.funs.mem hb
  exact I.base.free b o ho (I.ok.frf b hb) fun z => I.ok.exfs b z hb
/-- hidden: its object is pinned -/
theorem hide_in {pins : List (Addr × Obj)} {σ : L2.St} {H : Hp} {s : Shared} {D : Addr} {vs : List V} (I : Inv X pins σ H s) (hD : H D = some (.lst vs)) :
    ∃ its n, Vals vs its ∧ vs.length ≤ sizeLine ∧ Inv X (pins ++ [(D, ({ cls := .type "list", data := .seq its.toArray n } : Obj))]) σ (hd (some D) H) s := by
  obtain ⟨z, its, n, r, hl, e⟩ := I.lstM hD
  refine ⟨its, n, r, z, ?_⟩
  have ne : ∀ {b : Addr} {u : HO}, H b = some u → u ≠ .lst vs → hd (some D) H b = some u := fun {b u} h1 h2 => by
    rw [hd_ne (fun z => h2 (by rw [z, hD] at h1; exact (Option.some.inj h1).symm))]; exact h1
  have no : ∀ {b : Addr}, H b = none → hd (some D) H b = none := fun {b} h1 => by
    by_cases hb : b = D
    · rw [hb]; exact hd_self
    · rw [hd_ne hb]; exact h1
  refine ⟨I.ok, I.os, I.bare, ⟨I.base.keep, I.base.slot, fun b o h1 h2 h3 => no (I.base.free b o h1 h2 h3), I.base.there, fun b xs h1 => ne (I.base.tups b xs h1) (fun z => nomatch z), fun b o u h1 => ne (I.base.frzs b o u h1) (fun z => nomatch z), fun b ps h1 => ?_⟩, I.loc, I.cell, no I.free, fun x c h1 => no (I.freeC x c h1), fun p hp => ?_, fun a o h1 => ?_, I.len⟩
  · obtain ⟨more, h2⟩ := I.base.tbls b ps h1
    exact ⟨more, ne h2 fun z => nomatch z⟩
  · rw [← List.append_assoc] at hp
    rcases List.mem_append.mp hp with h1 | h1
    · obtain ⟨a1, a2, a3, a4, a5⟩ := I.pin p h1
      exact ⟨a1, no a2, a3, a4, a5⟩
    · obtain rfl := List.mem_singleton.mp h1
      refine ⟨e, hd_self, fun z => ?_, fun z => ?_, fun v z => nomatch z⟩
      · rw [show D = X.env.locals from z, I.free] at hD; cases hD
      · rw [fs_none I (show D ∈ X.fs from z)] at hD; cases hD
  · have na : a ≠ D := fun z => by rw [z, hd_self] at h1; cases h1
    rw [hd_ne na] at h1
    exact (I.hok a o h1).stay (fun b u _ q => q) (fun b q => ne q fun z => nomatch z) fun b xs q => ne q fun z => nomatch z
theorem hide_out {pins : List (Addr × Obj)} {σ σ' : L2.St} {H H' : Hp} {s s' : Shared} {D : Addr} {vs : List V} {its : List Value} {n : Nat} (I : Inv X pins σ H s) (hD : H D = some (.lst vs)) (r : Vals vs its) (z : vs.length ≤ sizeLine)
    (J : Inv X (pins ++ [(D, ({ cls := .type "list", data := .seq its.toArray n } : Obj))]) σ' H' s') : H' D = none ∧ Inv X pins σ' (upd H' D (.lst vs)) s' := by
  obtain ⟨e, hn, _⟩ := J.pin (D, _) (List.mem_append_right _ (List.mem_append_right _ List.mem_cons_self))
  have e' : s'.heap.get? D = some ({ cls := .type "list", data := .seq its.toArray n } : Obj) := e
  have hn' : H' D = none := hn
  have ne : ∀ {b : Addr} {u : HO}, H' b = some u → upd H' D (.lst vs) b = some u := fun {b u} h1 => by
    rw [upd_ne (fun z => by rw [z, hn'] at h1; cases h1)]; exact h1
  have no : ∀ {b : Addr}, b ≠ D → H' b = none → upd H' D (.lst vs) b = none := fun {b} h1 h2 => by rw [upd_ne h1]; exact h2
  have nL : X.env.locals ≠ D := fun z => by
    have h1 := I.free
    rw [z, hD] at h1
    cases h1
  refine ⟨hn', J.ok, J.os, J.bare, ⟨J.base.keep, J.base.slot, fun b o h1 h2 h3 => no (fun z => ?_) (J.base.free b o h1 h2 h3), J.base.there, fun b xs h1 => ne (J.base.tups b xs h1), fun b o u h1 => ne (J.base.frzs b o u h1), fun b ps h1 => ?_⟩, J.loc, J.cell, no nL J.free, fun x c h1 => no (fun z => ?_) (J.freeC x c h1), fun p hp => ?_, fun a o h1 => ?_, J.len⟩
  · have h4 := I.base.free b o h1 h2 h3
    rw [z, hD] at h4
    cases h4
  · obtain ⟨more, h2⟩ := J.base.tbls b ps h1
    exact ⟨more, ne h2⟩
  · have h4 := I.freeC x c h1
    rw [z, hD] at h4
    cases h4
  · obtain ⟨a1, a2, a3, a4, a5⟩ := J.pin p (by rw [← List.append_assoc]; exact List.mem_append_left _ hp)
    refine ⟨a1, no (fun z => ?_) a2, a3, a4, a5⟩
    have h4 := (I.pin p hp).2.1
    rw [z, hD] at h4
    cases h4
  · by_cases na : a = D
    · subst na
      rw [upd_same] at h1
      cases h1
      exact ⟨z, its, n, r, e'⟩
    · rw [upd_ne na] at h1
      exact (J.hok a o h1).stay (fun b u _ q => q) (fun b q => ne q) fun b xs q => ne q
def tHide (D : Addr) (t : TE) : TE := fun σ H Q => ∃ vs, H D = some (.lst vs) ∧ t σ (hd (some D) H) fun v H' => H' D = none → Q v (upd H' D (.lst vs))
def tHideT (D : Addr) (t : TT) : TT := fun σ H Q => ∃ vs, H D = some (.lst vs) ∧ t σ (hd (some D) H) fun v H' => H' D = none → Q v (upd H' D (.lst vs))
theorem pe_hide {e : Expr} {t : TE} (D : Addr) (h : PE X e t) : PE X e (tHide D t) := by
  refine ⟨fun pins s σ H Q I ⟨vs, hD, hw⟩ => ?_⟩
  obtain ⟨its, n, r, z, J⟩ := hide_in I hD
  refine thn (h.run _ s σ _ _ J hw) fun u s1 ⟨v, H', J', rv, q⟩ => ?_
  obtain ⟨hn, I'⟩ := hide_out I hD r z J'
  exact ⟨v, _, I', rv, q hn⟩
theorem pts_hide {es : List Expr} {t : TT} (D : Addr) (h : PTs X es t) : PTs X es (tHideT D t) := by
  refine ⟨fun pins s σ H Q I ⟨vs, hD, hw⟩ => ?_⟩
  obtain ⟨its, n, r, z, J⟩ := hide_in I hD
  refine thn (h.run _ s σ _ _ J hw) fun u s1 ⟨H', J', q⟩ => ?_
  obtain ⟨hn, I'⟩ := hide_out I hD r z J'
  exact ⟨_, I', q hn⟩
/-- for any D that the reading chooses -/
theorem pe_hideA {e : Expr} {t : TE} (h : PE X e t) : PE X e (fun σ H Q => ∃ D, tHide D t σ H Q) := ⟨fun pins s σ H Q I ⟨D, hw⟩ => (pe_hide D h).run pins s σ H Q I hw⟩
theorem pts_hideA {es : List Expr} {t : TT} (h : PTs X es t) : PTs X es (fun σ H Q => ∃ D, tHideT D t σ H Q) := ⟨fun pins s σ H Q I ⟨D, hw⟩ => (pts_hide D h).run pins s σ H Q I hw⟩
end

/-! ### comprehensions -/
/-- the block's own slots forgotten -/
def wipeD (ρ : Rho) : List Nat → Rho
  | [] => ρ
  | v :: vs => (wipeD ρ vs).set v none
open Classical in
noncomputable def mapL (gd : Option Nat) (all : List D) (g : MG) (t : MT) (m : ME) : List D → Rho → S → R (List D)
  | [], _, s => if gOk gd all s then .ok [] s else .bad
  | x :: xs, ρ, s => if gOk gd all s then match g x ρ s with
      | .ok ρ1 s1 => (match t ρ1 s1 with
        | .ok true s2 => (match m ρ1 s2 with
          | .ok d s3 => (match mapL gd all g t m xs ρ s3 with
            | .ok ds s4 => .ok (d :: ds) s4
            | _ => .bad)
          | _ => .bad)
        | .ok false s2 => mapL gd all g t m xs ρ s2
        | _ => .bad)
      | _ => .bad
    else .bad
noncomputable def mLc (it : MI) (g : MG) (t : MT) (m : ME) (own : List Nat) : ME := fun ρ s => (it ρ s).bind fun p s1 => match mapL p.2 p.1 g t m p.1 (wipeD ρ own) s1 with
  | .ok ds s2 => if p.1.length ≤ sizeLine then .ok (.lst ds) s2 else .bad
  | _ => .bad
def tAll : MT := fun _ s => .ok true s
theorem RelE.wipe {K : PySem.W.Frag} {w : World} {cl : Str → Option Addr} {ι : List Addr} {H : Hp} {ρ : Rho} {σ : L2.St} (e : RelE K w cl ι H ρ σ) : ∀ own : List Nat, RelE K w cl ι H (wipeD ρ own) (L2.wipe σ own)
  | [] => e
  | v :: vs => by
    have ih := RelE.wipe e vs
    unfold wipeD L2.wipe
    refine ⟨by rw [List.length_set, List.length_set]; exact ih.len, fun i d h => ?_⟩
    by_cases hv : v = i
    · subst hv
      by_cases hl : v < (wipeD ρ vs).length
      · rw [List.getElem?_set_self hl] at h; cases h
      · rw [List.getElem?_eq_none (by rw [List.length_set]; omega)] at h; cases h
    · rw [List.getElem?_set_ne hv] at h ⊢
      exact ih.at_ i d h
abbrev W0 : Wish := fun _ _ _ _ => False
/-- the least that M asks -/
def tOfE (K : PySem.W.Frag) (w : World) (cl : Str → Option Addr) (m : ME) : TE := fun σ H Q => ∃ ρ ι s, RelE K w cl ι H ρ σ ∧ RelS K w cl ι s H ∧ PoE K w cl W0 ι H σ Q (m ρ s)
def tOfT (K : PySem.W.Frag) (w : World) (cl : Str → Option Addr) (m : MT) : TT := fun σ H Q => ∃ ρ ι s, RelE K w cl ι H ρ σ ∧ RelS K w cl ι s H ∧ PoT K w cl W0 ι H σ Q (m ρ s)
structure SP1 (X : Cx) (cl : Str → Option Addr) (W : Wish) (ifs : List Expr) (m : MT) : Prop where
  ex : ∃ t, PTs X ifs t ∧ ∀ σ H Q ρ ι s, RelE X.K X.w cl ι H ρ σ → RelS X.K X.w cl ι s H → PoT X.K X.w cl W ι H σ Q (m ρ s) → t σ H Q
theorem sp_nil {X : Cx} {cl : Str → Option Addr} {W : Wish} : SP1 X cl W [] tAll := ⟨_, pts_nil, fun σ H Q ρ ι s _ r h => h ι H (Ext.refl _ _) r⟩
theorem sp_one {X : Cx} {cl : Str → Option Addr} {W : Wish} {c : Expr} {m : MT} (h : SB X cl W c m) : SP1 X cl W [c] m := by
  obtain ⟨t, p, q⟩ := h.ex
  exact ⟨_, pts_one p, q⟩
theorem SE.pe {X : Cx} {cl : Str → Option Addr} {e : Expr} {m : ME} (h : SE X cl W0 e m) : PE X e (tOfE X.K X.w cl m) := by
  obtain ⟨t, p, q⟩ := h.ex
  exact ⟨fun pins s σ H Q I ⟨ρ, ι, s0, en, r, hh⟩ => p.run pins s σ H Q I (q σ H Q ρ ι s0 en r hh)⟩
theorem SP1.pe {X : Cx} {cl : Str → Option Addr} {e : List Expr} {m : MT} (h : SP1 X cl W0 e m) : PTs X e (tOfT X.K X.w cl m) := by
  obtain ⟨t, p, q⟩ := h.ex
  exact ⟨fun pins s σ H Q I ⟨ρ, ι, s0, en, r, hh⟩ => p.run pins s σ H Q I (q σ H Q ρ ι s0 en r hh)⟩
/-- a target of a comprehension, over data -/
inductive OwnG (K : PySem.W.Frag) : TG → MG → List Nat → Prop
  | name (i : Nat) (own : List Nat) (h : i ∈ own) : OwnG K (gName i) (gSlot i) own
  | two (i j : Nat) (own : List Nat) (h : i ∈ own) (h2 : j ∈ own) : OwnG K (gTup K 2 (gCons (gName i) (gCons (gName j) gNil))) (gTupD 2 (gsCons (gSlot i) (gsCons (gSlot j) gsNil))) own
theorem wipe_get {σ : L2.St} {i : Nat} : ∀ {own : List Nat}, (L2.wipe σ own)[i]? = if i ∈ own ∧ i < σ.length then some none else σ[i]?
  | [] => by simp [L2.wipe]
  | v :: vs => by
    unfold L2.wipe
    by_cases hv : v = i
    · subst hv
      by_cases hl : v < σ.length
      · rw [List.getElem?_set_self (by rw [wipe_length]; exact hl), if_pos ⟨List.mem_cons_self, hl⟩]
      · rw [List.getElem?_eq_none (by rw [List.length_set, wipe_length]; omega), if_neg (fun z => hl z.2), List.getElem?_eq_none (by omega)]
    · rw [List.getElem?_set_ne hv, wipe_get (own := vs)]
      have : (i ∈ v :: vs) ↔ (i ∈ vs) := by simp [Ne.symm hv]
      simp only [this]
theorem wipe_set {σ : L2.St} {i : Nat} {x : Option V} {own : List Nat} (h : i ∈ own) : L2.wipe (σ.set i x) own = L2.wipe σ own := by
  apply List.ext_getElem?
  intro j
  rw [wipe_get, wipe_get, List.length_set]
  by_cases hj : i = j
  · subst hj
    by_cases hl : i < σ.length
    · rw [if_pos ⟨h, hl⟩, if_pos ⟨h, hl⟩]
    · rw [if_neg (fun z => hl z.2), if_neg (fun z => hl z.2), List.getElem?_eq_none (by rw [List.length_set]; omega), List.getElem?_eq_none (by omega)]
  · rw [List.getElem?_set_ne hj]
theorem wipe_wipe {σ : L2.St} {own : List Nat} : L2.wipe (L2.wipe σ own) own = L2.wipe σ own := by
  apply List.ext_getElem?
  intro j
  rw [wipe_get, wipe_get, wipe_length]
  by_cases h : j ∈ own ∧ j < σ.length
  · rw [if_pos h, if_pos h]
  · rw [if_neg h, if_neg h]
theorem OwnG.run {K : PySem.W.Frag} {w : World} {cl : Str → Option Addr} {tg : TG} {g : MG} {own : List Nat} (G : OwnG K tg g own) {z : Option Addr} {ι : List Addr} {H : Hp} {s s1 : S} {ρ ρ1 : Rho} {σ : L2.St} {d : D} {v : V} {Q : L2.St → Hp → Prop}
    (en : RelE K w cl ι (hd z H) ρ σ) (rd : RelD K w cl ι (hd z H) d v) (e : g d ρ s = .ok ρ1 s1) (h : s1 = s → ∀ σ', RelE K w cl ι (hd z H) ρ1 σ' → L2.wipe σ' own = L2.wipe σ own → Q σ' H) : tg v σ H Q := by
  cases G with
  | name i _ hi =>
    cases e
    exact h rfl _ (en.set rd) (wipe_set hi)
  | two i j _ hi hj =>
    unfold gTupD at e
    cases rd with
    | @tup ds a vs ht rt =>
      simp only at e
      split at e
      · rename_i hl
        match ds, hl with
        | [d1, d2], _ =>
          obtain ⟨v1, v2, rfl, q1, q2⟩ := rt.two
          cases e
          refine ⟨a, _, rfl, ht.act, rfl, v1, [v2], rfl, v2, [], rfl, rfl, ?_⟩
          exact h rfl _ ((en.set q1).set q2) (by rw [wipe_set hj, wipe_set hi])
      · cases e
    | _ => cases e
section
variable {K : PySem.W.Frag} {w : World} {cl : Str → Option Addr} {ι : List Addr} {H : Hp} {D : Addr}
theorem hd_upd {H : Hp} {D : Addr} {o : HO} : hd (some D) (upd H D o) = hd (some D) H := by
  funext b
  by_cases hb : b = D
  · rw [hb, hd_self, hd_self]
  · rw [hd_ne hb, hd_ne hb, upd_ne hb]
theorem hd_id {H : Hp} {D : Addr} (h : H D = none) : hd (some D) H = H := by
  funext b
  by_cases hb : b = D
  · rw [hb, hd_self, h]
  · rw [hd_ne hb]
theorem Ext.unhide (h : H D ≠ none) : Ext ι (hd (some D) H) ι H := ⟨⟨[], (List.append_nil ι).symm⟩, fun a o e n => ⟨hd_some e, n⟩⟩
theorem RelS.unhide {s : S} (r : RelS K w cl ι s (hd (some D) H)) (h : H D ≠ none) : RelS K w cl ι s H :=
  ⟨r.len, r.nd, fun n o e => let ⟨a, ea, ro⟩ := r.at_ n o e; ⟨a, ea, by
    cases o with
    | lst ds => obtain ⟨us, h1, h2⟩ := ro; exact ⟨us, hd_some h1, h2.ext (Ext.unhide h)⟩
    | ins c fs => obtain ⟨A, dx, us, hc, hk, h1, h2⟩ := ro; exact ⟨A, dx, us, hc, hk, hd_some h1, h2.ext (Ext.unhide h)⟩⟩⟩
end
/-- the reading of a comprehension -/
theorem lc_read {X : Cx} {cl : Str → Option Addr} {W : Wish} {it : MI} {g : MG} {mt : MT} {m : ME} {tg' : TG} {wi : TI} {ow : List Nat} (G : OwnG X.K tg' g ow)
    (q1 : ∀ (σ : L2.St) (H : Hp) (Q : It → Hp → Prop) ρ ι s, RelE X.K X.w cl ι H ρ σ → RelS X.K X.w cl ι s H →
    (match it ρ s with
      | .ok p s1 => ∀ ι' H' J, Ext ι H ι' H' → RelS X.K X.w cl ι' s1 H' → ItOk X.K X.w cl p J ι' H' → Q J H'
      | .exc x s1 => ∀ ι' H' c d, Ext ι H ι' H' → RelS X.K X.w cl ι' s1 H' → RelX X.K X.w cl ι' H' x c d → W c d σ H'
      | .bad => False) → wi σ H Q)
    {σ : L2.St} {H : Hp} {Q : VK} {ρ : Rho} {ι : List Addr} {s : S} (en : RelE X.K X.w cl ι H ρ σ) (r : RelS X.K X.w cl ι s H) (h : PoE X.K X.w cl W ι H σ Q (mLc it g mt m ow ρ s)) :
    tLc wi tg' (fun σ H Q => ∃ D, tHideT D (tOfT X.K X.w cl mt) σ H Q) (fun σ H Q => ∃ D, tHide D (tOfE X.K X.w cl m) σ H Q) ow σ H Q := by
  unfold mLc at h
  refine q1 σ H _ ρ ι s en r ?_
  cases e1 : it ρ s with
  | bad => rw [e1] at h; exact h
  | exc x s1 => rw [e1] at h; exact h
  | ok p s1 =>
  rw [e1] at h
  intro ι1 H1 J x1 r1 iok D hD
  simp only [R.bind] at h
  cases e2 : mapL p.2 p.1 g mt m p.1 (wipeD ρ ow) s1 with
  | bad => rw [e2] at h; exact False.elim h
  | exc x s2 => rw [e2] at h; exact False.elim h
  | ok ds s2 =>
  rw [e2] at h
  simp only at h
  by_cases hlen : p.1.length ≤ sizeLine
  rotate_left
  · rw [if_neg hlen] at h; exact False.elim h
  rw [if_pos hlen] at h
  have hid1 : hd (some D) (upd H1 D (.lst [])) = H1 := by rw [hd_upd, hd_id hD]
  -- what is made so far stands at D, hidden from the data; what is left gives the rest
  refine ⟨fun i k H' => k = p.1.length - i ∧ i ≤ p.1.length ∧ ∃ ι' s' acc vs ds', Ext ι1 H1 ι' (hd (some D) H') ∧ RelS X.K X.w cl ι' s' (hd (some D) H') ∧ H' D = some (.lst vs) ∧ RelDs X.K X.w cl ι' (hd (some D) H') acc vs ∧ acc.length ≤ i ∧
      mapL p.2 p.1 g mt m (p.1.drop i) (wipeD ρ ow) s' = .ok ds' s2 ∧ acc ++ ds' = ds,
    ⟨p.1.length, rfl, Nat.zero_le _, ι1, s1, [], [], ds, by rw [hid1]; exact Ext.refl _ _, by rw [hid1]; exact r1, upd_same, .nil, Nat.le_refl _, e2, rfl⟩, ?_⟩
  rintro i k H2 ⟨rfl, hi2, ι2, s3, acc, vs, ds', x2, r2, hD2, rv, hacc, em, ed⟩
  have nD2 : ∀ a, some D = some a → H2 a ≠ none := fun a ea => by cases ea; rw [hD2]; exact fun z => nomatch z
  by_cases hlt : i < p.1.length
  · have edr : p.1.drop i = p.1[i] :: p.1.drop (i + 1) := List.drop_eq_getElem_cons hlt
    rw [edr] at em
    unfold mapL at em
    by_cases hg2 : gOk p.2 p.1 s3
    rotate_left
    · rw [if_neg hg2] at em; cases em
    rw [if_pos hg2] at em
    obtain ⟨go, yl⟩ := (iok (some D) i ι2 H2 s3 nD2 x2 r2 hg2).1 hlt
    refine .inr ⟨go, fun H' => i + 1 ≤ p.1.length ∧ ∃ ι' s' acc vs ds', Ext ι1 H1 ι' (hd (some D) H') ∧ RelS X.K X.w cl ι' s' (hd (some D) H') ∧ H' D = some (.lst vs) ∧ RelDs X.K X.w cl ι' (hd (some D) H') acc vs ∧ acc.length ≤ i + 1 ∧
      mapL p.2 p.1 g mt m (p.1.drop (i + 1)) (wipeD ρ ow) s' = .ok ds' s2 ∧ acc ++ ds' = ds, fun H' ⟨h5, h6⟩ => ⟨p.1.length - (i + 1), by omega, rfl, h5, h6⟩, fun x H3 y => ?_⟩
    obtain ⟨sameD, d, ed2, x3, r3, rd⟩ := yl x H3 y
    rw [List.getElem?_eq_getElem hlt] at ed2
    cases ed2
    have hD3 : H3 D = some (.lst vs) := by rw [sameD D rfl]; exact hD2
    have en3 : RelE X.K X.w cl ι2 (hd (some D) H3) (wipeD ρ ow) (L2.wipe σ ow) := (((en.ext x1).ext x2).ext x3).wipe _
    cases e4 : g p.1[i] (wipeD ρ ow) s3 with
    | bad => rw [e4] at em; cases em
    | exc x s4 => rw [e4] at em; cases em
    | ok ρ4 s4 =>
    rw [e4] at em
    simp only at em
    refine G.run (z := some D) en3 rd e4 fun es σ4 en4 hw => ⟨by rw [hw, wipe_wipe], D, vs, hD3, ρ4, ι2, s4, en4, by rw [es]; exact r3, ?_⟩
    cases e5 : mt ρ4 s4 with
    | bad => rw [e5] at em; cases em
    | exc x s5 => rw [e5] at em; cases em
    | ok b s5 =>
    rw [e5] at em
    intro ι5 H5 x5 r5 hn5
    have h5 : hd (some D) (upd H5 D (.lst vs)) = H5 := by rw [hd_upd, hd_id hn5]
    cases b with
    | true =>
      simp only [if_true] at em ⊢
      refine ⟨D, vs, upd_same, ρ4, ι5, s5, by rw [h5]; exact en4.ext x5, by rw [h5]; exact r5, ?_⟩
      cases e6 : m ρ4 s5 with
      | bad => rw [e6] at em; cases em
      | exc x s6 => rw [e6] at em; cases em
      | ok d6 s6 =>
      rw [e6] at em
      intro ι6 H6 v6 x6 r6 rd6 hn6
      rw [h5] at x6
      simp only at em
      cases e7 : mapL p.2 p.1 g mt m (p.1.drop (i + 1)) (wipeD ρ ow) s6 with
      | bad => rw [e7] at em; cases em
      | exc x s7 => rw [e7] at em; cases em
      | ok ds7 s7 =>
      rw [e7] at em
      cases em
      have hvl : vs.length = acc.length := rv.length.symm
      have h6 : hd (some D) (upd (upd H6 D (.lst vs)) D (.lst (vs ++ [v6]))) = H6 := by rw [hd_upd, hd_upd, hd_id hn6]
      refine ⟨vs, upd_same, by omega, hlt, ι6, s6, acc ++ [d6], vs ++ [v6], ds7, ?_, ?_, upd_same, ?_, ?_, e7, by rw [List.append_assoc]; exact ed⟩
      · rw [h6]; exact ((x2.trans x3).trans x5).trans x6
      · rw [h6]; exact r6
      · rw [h6]; exact (((rv.ext x3).ext x5).ext x6).append (.cons rd6 .nil)
      · rw [List.length_append]; exact Nat.succ_le_succ hacc
    | false =>
      simp only [Bool.false_eq_true, if_false] at em ⊢
      refine ⟨hlt, ι5, s5, acc, vs, ds', ?_, ?_, upd_same, ?_, by omega, em, ed⟩
      · rw [h5]; exact (x2.trans x3).trans x5
      · rw [h5]; exact r5
      · rw [h5]; exact (rv.ext x3).ext x5
  · have e : p.1.drop i = [] := List.drop_eq_nil_of_le (by omega)
    rw [e] at em
    unfold mapL at em
    by_cases hg2 : gOk p.2 p.1 s3
    · rw [if_pos hg2] at em
      cases em
      rw [List.append_nil] at ed
      subst ed
      have nD : H2 D ≠ none := by rw [hD2]; exact fun z => nomatch z
      refine .inl ⟨(iok (some D) i ι2 H2 _ nD2 x2 r2 hg2).2 (by omega), ?_⟩
      have rs2 := r2.unhide nD
      have nDi : D ∉ ι2 := r2.notin hd_self
      refine h ι2 H2 (.ref D) ((x1.trans x2).trans (Ext.unhide nD)) rs2 (.lst (.inl ⟨.inl hD2, nDi⟩) (rv.ext (Ext.unhide nD)))
    · rw [if_neg hg2] at em; cases em
theorem se_lc {X : Cx} {cl : Str → Option Addr} {W : Wish} {elt tg iter : Expr} {ifs : List Expr} {scope : Scope} {own : List (Str × Nat)} {pos : Pos} {it : MI} {g : MG} {mt : MT} {m : ME} {tg' : TG}
    (hc : X.calm = true) (hN : X.N.Nodup) (hi : SI X cl W tg iter it) (ok : BlkOk X.N X.env.scope scope own) (G : OwnG X.K tg' g (own.map (·.2)))
    (hg : ∀ (s : Shared) (H : Hp) (C : Addr) (cs : List (Str × Addr)) (fp : List Addr), PG (X.blk s H scope (compEnvC scope cs C X.env) fp) tg tg')
    (ht : ∀ (s : Shared) (H : Hp) (C : Addr) (cs : List (Str × Addr)) (fp : List Addr), SP1 (X.blk s H scope (compEnvC scope cs C X.env) fp) cl W0 ifs mt)
    (he : ∀ (s : Shared) (H : Hp) (C : Addr) (cs : List (Str × Addr)) (fp : List Addr), SE (X.blk s H scope (compEnvC scope cs C X.env) fp) cl W0 elt m)
    (hs : ∀ x, foldedSetIterable iter X.env x = pure x := by intro _; rfl) : SE X cl W (.ListComp elt [⟨tg, iter, ifs, 0⟩] scope pos) (mLc it g mt m (own.map (·.2))) := by
  obtain ⟨wi, p1, q1⟩ := hi.ex
  have ht' : ∀ (s : Shared) (H : Hp) (C : Addr) (cs : List (Str × Addr)) (fp : List Addr), PTs (X.blk s H scope (compEnvC scope cs C X.env) fp) ifs (fun σ H Q => ∃ D, tHideT D (tOfT X.K X.w cl mt) σ H Q) := fun s H C cs fp => pts_hideA (SP1.pe (ht s H C cs fp))
  have he' : ∀ (s : Shared) (H : Hp) (C : Addr) (cs : List (Str × Addr)) (fp : List Addr), PE (X.blk s H scope (compEnvC scope cs C X.env) fp) elt (fun σ H Q => ∃ D, tHide D (tOfE X.K X.w cl m) σ H Q) := fun s H C cs fp => pe_hideA (SE.pe (he s H C cs fp))
  exact ⟨_, pe_lc hc hN p1 ok hg ht' he' hs, fun σ H Q ρ ι s en r h => lc_read (W := W) G q1 en r h⟩
/-- y = [..] on one line -/
theorem ss_setLc {X : Cx} {cl : Str → Option Addr} {W : Wish} {y : Str} {py spos : Pos} {elt tg iter : Expr} {ifs : List Expr} {scope : Scope} {own : List (Str × Nat)} {pos : Pos} {it : MI} {g : MG} {mt : MT} {m : ME} {tg' : TG} (i : Nat)
    (hc : X.calm = true) (hN : X.N.Nodup) (hi : SI X cl W tg iter it) (ok : BlkOk X.N X.env.scope scope own) (G : OwnG X.K tg' g (own.map (·.2)))
    (hg : ∀ (s : Shared) (H : Hp) (C : Addr) (cs : List (Str × Addr)) (fp : List Addr), PG (X.blk s H scope (compEnvC scope cs C X.env) fp) tg tg')
    (ht : ∀ (s : Shared) (H : Hp) (C : Addr) (cs : List (Str × Addr)) (fp : List Addr), SP1 (X.blk s H scope (compEnvC scope cs C X.env) fp) cl W0 ifs mt)
    (he : ∀ (s : Shared) (H : Hp) (C : Addr) (cs : List (Str × Addr)) (fp : List Addr), SE (X.blk s H scope (compEnvC scope cs C X.env) fp) cl W0 elt m)
    (hsw : swapsWith (.ListComp elt [⟨tg, iter, ifs, 0⟩] scope pos) (some (.Name y py)) spos.line X.env = pure true)
    (hy : X.N[i]? = some y := by rfl) (hyl : X.env.scope.names.lookup y = some .local := by rfl)
    (hs : ∀ x, foldedSetIterable iter X.env x = pure x := by intro _; rfl) : SS X cl W (.Assign [.Name y py] (.ListComp elt [⟨tg, iter, ifs, 0⟩] scope pos) spos) (sSet i (mLc it g mt m (own.map (·.2)))) := by
  obtain ⟨wi, p1, q1⟩ := hi.ex
  have ht' : ∀ (s : Shared) (H : Hp) (C : Addr) (cs : List (Str × Addr)) (fp : List Addr), PTs (X.blk s H scope (compEnvC scope cs C X.env) fp) ifs (fun σ H Q => ∃ D, tHideT D (tOfT X.K X.w cl mt) σ H Q) := fun s H C cs fp => pts_hideA (SP1.pe (ht s H C cs fp))
  have he' : ∀ (s : Shared) (H : Hp) (C : Addr) (cs : List (Str × Addr)) (fp : List Addr), PE (X.blk s H scope (compEnvC scope cs C X.env) fp) elt (fun σ H Q => ∃ D, tHide D (tOfE X.K X.w cl m) σ H Q) := fun s H C cs fp => pe_hideA (SE.pe (he s H C cs fp))
  refine ⟨_, ps_setLc hc hN hy hyl hsw p1 ok hg ht' he' hs, fun Dn σ H ρ ι s en r h => ?_⟩
  refine lc_read (W := W) G q1 en r (PoS.stepE en h fun d s1 ι1 H1 v e1 x1 r1 d1 h1 => h1 ι1 H1 _ (Ext.refl _ _) r1 ((en.ext x1).set d1))
end Pm
namespace Pm
open PySem PySem.Spec PyProof.Rows L2

/-! ### defs -/
/-- a def over data: n parameters, tot slots -/
def mkFn (n tot : Nat) (m : MS) (ds : List D) (s : S) : R D := if ds.length = n then (match m (ds.map some ++ List.replicate (tot - n) none) s with
  | .ok (.rt d) s1 => .ok d s1
  | .ok (.nx _) s1 => .ok .non s1
  | .exc x _ s1 => .exc x s1
  | _ => .bad) else .bad
def spD (K : PySem.W.Frag) (w : World) (cl : Str → Option Addr) (n : Nat) (F : List D → S → R D) : Sp := fun vs H Q E =>
  vs.length = n ∧ ∃ ι s ds, RelS K w cl ι s H ∧ RelDs K w cl ι H ds vs ∧ PoE K w cl (fun c d _ H' => E c d H') ι H [] Q (F ds s)
section
variable {P : Program} {w : World} {K : PySem.W.Frag} {mg : Str → Option Value} {base : Heap} {cl : Str → Option Addr}
theorem start_rel {ι : List Addr} {H : Hp} {tot : Nat} {N : List Str} (hN : N.length = tot) : ∀ {ds : List D} {vs : List V} {n : Nat}, n = ds.length → RelDs K w cl ι H ds vs → RelE K w cl ι H (ds.map some ++ List.replicate (tot - n) none) (L2.start N vs) := by
  intro ds vs n hn r
  have hl := r.length
  refine ⟨?_, fun i d h => ?_⟩
  · unfold L2.start
    simp only [List.length_append, List.length_map, List.length_replicate]
    omega
  · unfold L2.start
    by_cases hi : i < ds.length
    · rw [List.getElem?_append_left (by rw [List.length_map]; exact hi), List.getElem?_map] at h
      obtain ⟨e, he, h2⟩ := Option.map_eq_some_iff.mp h
      cases h2
      obtain ⟨v, hv, rv⟩ := r.get he
      exact ⟨v, by rw [List.getElem?_append_left (by rw [List.length_map]; omega), List.getElem?_map, hv]; rfl, rv⟩
    · rw [List.getElem?_append_right (by rw [List.length_map]; omega), List.getElem?_replicate] at h
      split at h <;> cases h
/-- a def keeps: what M gives -/
theorem fn_ok {x qual : Str} {st : Stmt} {f : Addr} {fd : FuncData} {N ps : List Str} {k : Nat} {m : MS} (F : Fun K x qual st f fd) (Sc : FnScope N ps (defScope st))
    (hb : ∀ (cdv : Value) (A : Around) (outer : List Env) (s : Shared) (H : Hp) (E : XK), Room k (A.deeper (envOfC qual (defScope st) s.heap.objs.size f cdv)) →
      SSs (cxOf (L2.CX P w) P w K mg base N qual (defScope st) f cdv A outer s H E) cl (fun c d _ H' => E c d H') (defBody st) m) :
    FnOk P w K mg base (L2.CX P w) (k + 1) f fd ps (spD K w cl ps.length (mkFn ps.length N.length m)) := by
  refine F.okX Sc (fun vs H Q E h => h.1) fun cdv A outer s H vs Q E hr ⟨hl, ι, s0, ds, rs, rd, h⟩ => ?_
  obtain ⟨t, p, q⟩ := (hb cdv A outer s H E hr).ex
  refine ⟨t, p, ?_⟩
  have hdl : ds.length = ps.length := by rw [rd.length]; exact hl
  unfold mkFn at h
  rw [if_pos hdl] at h
  refine q _ (L2.start N vs) H _ ι s0 (start_rel rfl hdl.symm rd) rs ?_
  cases hm : m (ds.map some ++ List.replicate (N.length - ps.length) none) s0 with
  | bad => rw [hm] at h; exact h
  | exc x ρ1 s1 => rw [hm] at h; exact fun ι2 H2 σ2 c d x2 r2 _ rx => h ι2 H2 c d x2 r2 rx
  | ok c1 s1 =>
    rw [hm] at h
    cases c1 with
    | nx ρ1 => exact fun ι2 H2 σ2 x2 r2 _ => h ι2 H2 .non x2 r2 .non
    | rt d => exact h
    | bk ρ1 => exact False.elim h
    | ct ρ1 => exact False.elim h
theorem fn_imp {f : Addr} {fd : FuncData} {ps : List Str} {k n : Nat} {F G : List D → S → R D} (h : FnOk P w K mg base (L2.CX P w) k f fd ps (spD K w cl n F))
    (hg : ∀ (E : XK) (ι : List Addr) (H : Hp) (Q : VK) ds s, RelS K w cl ι s H → PoE K w cl (fun c d _ H' => E c d H') ι H [] Q (G ds s) → PoE K w cl (fun c d _ H' => E c d H') ι H [] Q (F ds s)) : FnOk P w K mg base (L2.CX P w) k f fd ps (spD K w cl n G) :=
  h.imp fun vs H Q E ⟨hl, ι, s, ds, rs, rd, q⟩ => ⟨hl, ι, s, ds, rs, rd, hg E ι H Q ds s rs q⟩
end
section
variable {X : Cx} {cl : Str → Option Addr} {W : Wish} {pos p : Pos} {x : Str} {e : Expr} {es : List Expr} {ms : MA} {f : Addr} {fd : FuncData} {ps : List Str} {k n : Nat} {G : List D → S → R D}
theorem call_po {ι : List Addr} {H : Hp} {σ : L2.St} {Q : VK} {ds : List D} {vs : List V} {s : S} (hn : ∀ ds s, ds.length ≠ n → G ds s = .bad) (r : RelS X.K X.w cl ι s H) (rd : RelDs X.K X.w cl ι H ds vs) (h : PoE X.K X.w cl W ι H σ Q (G ds s)) : spD X.K X.w cl n G vs H Q (WE W σ) := by
  refine ⟨?_, ι, s, ds, r, rd, ?_⟩
  · by_cases hl : ds.length = n
    · rw [← rd.length]; exact hl
    · rw [hn ds s hl] at h; exact False.elim h
  · cases hg : G ds s with
    | ok d s1 => rw [hg] at h; exact h
    | exc x s1 => rw [hg] at h; exact h
    | bad => rw [hg] at h; exact h
/-- f(..) -/
theorem se_call (tk : Takes X W) (F : FnOk X.prog X.w X.K X.mg X.base (L2.CX X.prog X.w) k f fd ps (spD X.K X.w cl n G)) (hn : ∀ ds s, ds.length ≠ n → G ds s = .bad) (hr : Room k X.A) (hg : Gl X x) (hm : X.mg x = some (.ref f)) (hk : PySem.W.keepIn X.K (.ref f) = true) (hb : Binds X.K fd ps [])
    (ha : SA X cl W (e :: es) ms) (hdb : (x == ("__debug__" : Str)) = false := by decide) (he : starEach (e :: es) X.env = (false, eval e X.env) :: starEach es X.env := by rfl) (hpl : (backTo pos (starEach es X.env)).any (·.1) = false := by rfl) :
    SE X cl W (.Call (.Name x p) (e :: es) [] pos) (mN G ms) := by
  obtain ⟨ta, pa, qa⟩ := ha.ex
  refine ⟨_, pe_callS (E := WE W) F hr hg hm hk hb (fun σ => passAt tk σ) pa hdb he hpl, fun σ H Q ρ ι s en r h => ?_⟩
  exact qa σ H _ ρ ι s en r (PoE.stepA h fun ds s1 ι1 H1 vs e1 x1 r1 d1 h1 => call_po hn r1 d1 h1)
end

/-! ### finishing: what a def made and hands back is not changed any more -/
mutual
def ltD (n : Nat) : D → Bool
  | .ref m => decide (m < n)
  | .tup xs => ltDs n xs
  | .lst xs => ltDs n xs
  | .ins _ fs => ltFs n fs
  | .dic kvs => ltFs n kvs
  | _ => true
def ltDs (n : Nat) : List D → Bool
  | [] => true
  | x :: xs => ltD n x && ltDs n xs
def ltFs (n : Nat) : List (Str × D) → Bool
  | [] => true
  | (_, x) :: xs => ltD n x && ltFs n xs
end
def ltO (n : Nat) : O → Bool
  | .lst xs => ltDs n xs
  | .ins _ fs => ltFs n fs
section
variable {K : PySem.W.Frag} {w : World} {cl : Str → Option Addr} {ι : List Addr} {H : Hp} {n : Nat}
theorem notin_take {a : Addr} (h : a ∉ ι) : a ∉ ι.take n := fun z => h (List.mem_of_mem_take z)
mutual
theorem ltD_rel : ∀ {d : D} {v : V}, RelD K w cl ι H d v → ltD n d = true → RelD K w cl (ι.take n) H d v
  | _, _, .non, _ => .non
  | _, _, .bl b, _ => .bl b
  | _, _, .int i, _ => .int i
  | _, _, .str y, _ => .str y
  | _, _, .tup h r, l => .tup (by
      rcases h with ⟨h, k⟩ | h
      · exact .inl ⟨h, notin_take k⟩
      · exact .inr h) (ltDs_rel r (by simpa [ltD] using l))
  | _, _, .lst h r, l => .lst (by
      rcases h with ⟨h, k⟩ | h
      · exact .inl ⟨h, notin_take k⟩
      · exact .inr h) (ltDs_rel r (by simpa [ltD] using l))
  | _, _, .ref h, l => .ref (by
      rw [List.getElem?_take, if_pos (by simpa [ltD] using l)]
      exact h)
  | _, _, .ins hc hk h ha r, l => .ins hc hk h (notin_take ha) (ltFs_rel r (by simpa [ltD] using l))
  | _, _, .glo a, _ => .glo a
  | _, _, .ty m, _ => .ty m
  | _, _, .dic h r, l => .dic h (ltFs_rel r (by simpa [ltD] using l))
theorem ltDs_rel : ∀ {ds : List D} {vs : List V}, RelDs K w cl ι H ds vs → ltDs n ds = true → RelDs K w cl (ι.take n) H ds vs
  | _, _, .nil, _ => .nil
  | _, _, .cons r t, l => .cons (ltD_rel r (by simp only [ltDs, Bool.and_eq_true] at l; exact l.1)) (ltDs_rel t (by simp only [ltDs, Bool.and_eq_true] at l; exact l.2))
theorem ltFs_rel : ∀ {ds : List (Str × D)} {vs : List (Str × V)}, RelFs K w cl ι H ds vs → ltFs n ds = true → RelFs K w cl (ι.take n) H ds vs
  | _, _, .nil, _ => .nil
  | _, _, .cons r t, l => .cons (ltD_rel r (by simp only [ltFs, Bool.and_eq_true] at l; exact l.1)) (ltFs_rel t (by simp only [ltFs, Bool.and_eq_true] at l; exact l.2))
end
end
def allD (f : D → Option D) : List D → Option (List D)
  | [] => some []
  | x :: xs => match f x, allD f xs with
    | some y, some ys => some (y :: ys)
    | _, _ => none
def allF (f : D → Option D) : List (Str × D) → Option (List (Str × D))
  | [] => some []
  | (g, x) :: xs => match f x, allF f xs with
    | some y, some ys => some ((g, y) :: ys)
    | _, _ => none
/-- the things from n on become data -/
def frzD (s : S) (n : Nat) : Nat → D → Option D
  | 0, _ => none
  | k + 1, .ref m => if m < n then some (.ref m) else match s[m]? with
    | some (.lst xs) => (allD (frzD s n k) xs).map .lst
    | some (.ins c fs) => (allF (frzD s n k) fs).map (.ins c)
    | none => none
  | k + 1, .tup xs => (allD (frzD s n k) xs).map .tup
  | k + 1, .lst xs => (allD (frzD s n k) xs).map .lst
  | k + 1, .ins c fs => (allF (frzD s n k) fs).map (.ins c)
  | _ + 1, .dic kvs => if ltFs n kvs then some (.dic kvs) else none
  | _ + 1, d => some d
def stOk (n : Nat) (s : S) : Bool := (s.take n).all (ltO n)
def frzR (n : Nat) : R D → R D
  | .ok d s => match frzD s n 20 d with
    | some d' => if stOk n s = true then .ok d' (s.take n) else .bad
    | none => .bad
  | .exc x s => match frzD s n 20 x with
    | some x' => if stOk n s = true then .exc x' (s.take n) else .bad
    | none => .bad
  | .bad => .bad
def mkFz (F : List D → S → R D) (ds : List D) (s : S) : R D := frzR s.length (F ds s)
section
variable {K : PySem.W.Frag} {w : World} {cl : Str → Option Addr} {ι : List Addr} {H : Hp} {n : Nat} {s : S}
theorem allD_rel {f : D → Option D} (hf : ∀ d d' v, f d = some d' → RelD K w cl ι H d v → RelD K w cl (ι.take n) H d' v) : ∀ {xs ys : List D} {vs : List V}, allD f xs = some ys → RelDs K w cl ι H xs vs → RelDs K w cl (ι.take n) H ys vs
  | [], ys, _, e, .nil => by cases e; exact .nil
  | x :: xs, ys, _, e, .cons r t => by
    simp only [allD] at e
    split at e
    · rename_i p qs e1 e2
      cases e
      exact .cons (hf _ _ _ e1 r) (allD_rel hf e2 t)
    · cases e
theorem allF_rel {f : D → Option D} (hf : ∀ d d' v, f d = some d' → RelD K w cl ι H d v → RelD K w cl (ι.take n) H d' v) : ∀ {xs ys : List (Str × D)} {vs : List (Str × V)}, allF f xs = some ys → RelFs K w cl ι H xs vs → RelFs K w cl (ι.take n) H ys vs
  | [], ys, _, e, .nil => by cases e; exact .nil
  | (g, x) :: xs, ys, _, e, .cons r t => by
    simp only [allF] at e
    split at e
    · rename_i p qs e1 e2
      cases e
      exact .cons (hf _ _ _ e1 r) (allF_rel hf e2 t)
    · cases e
theorem frzD_rel (rs : RelS K w cl ι s H) : ∀ (k : Nat) (d d' : D) (v : V), frzD s n k d = some d' → RelD K w cl ι H d v → RelD K w cl (ι.take n) H d' v
  | 0, _, _, _, e, _ => by cases e
  | k + 1, d, d', v, e, r => by
    have ih := frzD_rel rs k
    have seqs : ∀ {T : Prop} {a : Addr}, (T ∧ a ∉ ι) → T ∧ a ∉ ι.take n := fun h => ⟨h.1, notin_take h.2⟩
    cases r <;> simp only [frzD] at e
    · cases e; exact .non
    · cases e; exact .bl _
    · cases e; exact .int _
    · cases e; exact .str _
    · rename_i h r
      obtain ⟨ys, e1, rfl⟩ := Option.map_eq_some_iff.mp e
      exact .tup (h.imp seqs id) (allD_rel ih e1 r)
    · rename_i h r
      obtain ⟨ys, e1, rfl⟩ := Option.map_eq_some_iff.mp e
      exact .lst (h.imp seqs id) (allD_rel ih e1 r)
    · rename_i m a hm
      by_cases hmn : m < n
      · rw [if_pos hmn] at e
        cases e
        exact .ref (by rw [List.getElem?_take, if_pos hmn]; exact hm)
      · rw [if_neg hmn] at e
        have na : a ∉ ι.take n := fun z => by
          obtain ⟨j, hj⟩ := List.getElem?_of_mem z
          rw [List.getElem?_take] at hj
          split at hj
          · rename_i hjn
            obtain ⟨h1, e1⟩ := List.getElem?_eq_some_iff.mp hm
            obtain ⟨h2, e2⟩ := List.getElem?_eq_some_iff.mp hj
            have := (List.getElem_inj rs.nd).mp (e1.trans e2.symm)
            omega
          · cases hj
        cases e5 : s[m]? with
        | none => rw [e5] at e; cases e
        | some o =>
        rw [e5] at e
        obtain ⟨a', ea, ro⟩ := rs.at_ m _ e5
        rw [hm] at ea
        obtain rfl := Option.some.inj ea
        cases o with
        | lst xs =>
          obtain ⟨ys, e1, rfl⟩ := Option.map_eq_some_iff.mp e
          obtain ⟨vs, hv, rv⟩ := ro
          exact .lst (.inl ⟨.inl hv, na⟩) (allD_rel ih e1 rv)
        | ins c fs =>
          obtain ⟨ys, e1, rfl⟩ := Option.map_eq_some_iff.mp e
          obtain ⟨A, dx, vs, hc, hk, hv, rv⟩ := ro
          exact .ins hc hk hv na (allF_rel ih e1 rv)
    · rename_i hc hk h ha r
      obtain ⟨ys, e1, rfl⟩ := Option.map_eq_some_iff.mp e
      exact .ins hc hk h (notin_take ha) (allF_rel ih e1 r)
    · cases e; exact .glo _
    · cases e; exact .ty _
    · rename_i h r
      split at e
      · rename_i hl
        cases e
        exact .dic h (ltFs_rel r hl)
      · cases e
theorem stOk_rel (rs : RelS K w cl ι s H) (h : stOk n s = true) : RelS K w cl (ι.take n) (s.take n) H := by
  refine ⟨by rw [List.length_take, List.length_take, rs.len], List.Nodup.sublist (List.take_sublist n ι) rs.nd, fun m o e => ?_⟩
  have hm : o ∈ s.take n := List.mem_of_getElem? e
  have hl := List.all_eq_true.mp h o hm
  rw [List.getElem?_take] at e
  split at e
  · rename_i hmn
    obtain ⟨a, ea, ro⟩ := rs.at_ m o e
    refine ⟨a, by rw [List.getElem?_take, if_pos hmn]; exact ea, ?_⟩
    cases o with
    | lst xs => obtain ⟨vs, hv, rv⟩ := ro; exact ⟨vs, hv, ltDs_rel rv hl⟩
    | ins c fs => obtain ⟨A, dx, vs, hc, hk, hv, rv⟩ := ro; exact ⟨A, dx, vs, hc, hk, hv, ltFs_rel rv hl⟩
  · cases e
theorem Ext.cut {ι' : List Addr} {H' : Hp} (x : Ext ι H ι' H') (hn : ι.length = n) : ι'.take n = ι ∧ Ext ι H ι H' := by
  obtain ⟨l, e⟩ := x.pre
  refine ⟨by rw [e, ← hn, List.take_left], ⟨[], (List.append_nil ι).symm⟩, fun a o h na => ⟨(x.keep a o h na).1, na⟩⟩
theorem frz_po {W : Wish} {σ : L2.St} {Q : VK} {r : R D} {ι0 : List Addr} {H0 : Hp} (hn : ι0.length = n) (h : PoE K w cl W ι0 H0 σ Q (frzR n r)) : PoE K w cl W ι0 H0 σ Q r := by
  cases r with
  | bad => exact h
  | ok d s =>
    unfold frzR at h
    simp only at h
    split at h
    · rename_i d' e
      split at h
      · rename_i hs
        intro ι1 H1 v x1 r1 rd
        obtain ⟨et, xc⟩ := x1.cut hn
        have r2 := stOk_rel r1 hs
        have d2 := frzD_rel (n := n) r1 _ _ _ _ e rd
        rw [et] at r2 d2
        exact h ι0 H1 v xc r2 d2
      · exact False.elim h
    · exact False.elim h
  | exc x s =>
    unfold frzR at h
    simp only at h
    split at h
    · rename_i d' e
      split at h
      · rename_i hs
        intro ι1 H1 c dd x1 r1 rx
        obtain ⟨et, xc⟩ := x1.cut hn
        have r2 := stOk_rel r1 hs
        rw [et] at r2
        refine h ι0 H1 c dd xc r2 ?_
        obtain ⟨C, fs, A, rfl, hc, rfl, d0, vs, rfl, hx, rf⟩ := rx
        obtain ⟨ys, e1, rfl⟩ := Option.map_eq_some_iff.mp (show (allF (frzD s n 19) fs).map (D.ins C) = some d' from e)
        have rf2 := allF_rel (n := n) (frzD_rel r1 19) e1 rf
        rw [et] at rf2
        exact ⟨C, ys, A, rfl, hc, rfl, d0, vs, rfl, hx, rf2⟩
      · exact False.elim h
    · exact False.elim h
end
theorem fn_frz {P : Program} {w : World} {K : PySem.W.Frag} {mg : Str → Option Value} {base : Heap} {cl : Str → Option Addr} {f : Addr} {fd : FuncData} {ps : List Str} {k n : Nat} {F : List D → S → R D} (h : FnOk P w K mg base (L2.CX P w) k f fd ps (spD K w cl n F)) :
    FnOk P w K mg base (L2.CX P w) k f fd ps (spD K w cl n (mkFz F)) := fn_imp h fun E ι H Q ds s rs q => frz_po rs.len q
/-- an expression whose new things are finished at once -/
def mFz (m : ME) : ME := fun ρ s => frzR s.length (m ρ s)
theorem se_frz {X : Cx} {cl : Str → Option Addr} {W : Wish} {e : Expr} {m : ME} (h : SE X cl W e m) : SE X cl W e (mFz m) := by
  obtain ⟨t, p, q⟩ := h.ex
  exact ⟨t, p, fun σ H Q ρ ι s en r h => q σ H Q ρ ι s en r (frz_po r.len h)⟩
/-! ### a suite that leaves nothing new behind: the store is cut at its end -/
def cutO (n : Nat) : Option D → Option D
  | some d => if ltD n d = true then some d else none
  | none => none
def cutRho (n : Nat) (ρ : Rho) : Rho := ρ.map (cutO n)
def cutS (n : Nat) : RS → RS
  | .ok (.nx ρ) s => if stOk n s = true then .ok (.nx (cutRho n ρ)) (s.take n) else .bad
  | .ok (.ct ρ) s => if stOk n s = true then .ok (.ct (cutRho n ρ)) (s.take n) else .bad
  | .ok (.bk ρ) s => if stOk n s = true then .ok (.bk (cutRho n ρ)) (s.take n) else .bad
  | r => r
def sCut (m : MS) : MS := fun ρ s => cutS s.length (m ρ s)
section
variable {K : PySem.W.Frag} {w : World} {cl : Str → Option Addr} {ι : List Addr} {H : Hp} {n : Nat} {s : S}
theorem RelE.cut {ρ : Rho} {σ : L2.St} (e : RelE K w cl ι H ρ σ) : RelE K w cl (ι.take n) H (cutRho n ρ) σ := by
  refine ⟨by unfold cutRho; rw [List.length_map]; exact e.len, fun i d h => ?_⟩
  unfold cutRho at h
  rw [List.getElem?_map] at h
  obtain ⟨o, h1, h2⟩ := Option.map_eq_some_iff.mp h
  cases o with
  | none => cases h2
  | some d' =>
    unfold cutO at h2
    simp only at h2
    split at h2
    · rename_i hl
      cases h2
      obtain ⟨v, hv, rv⟩ := e.at_ i d h1
      exact ⟨v, hv, ltD_rel rv hl⟩
    · cases h2
theorem cut_po {W : Wish} {Dn : Ends} {r : RS} {ι0 : List Addr} {H0 : Hp} (hn : ι0.length = n) (h : PoS K w cl W ι0 H0 Dn (cutS n r)) : PoS K w cl W ι0 H0 Dn r := by
  cases r with
  | bad => exact h
  | exc x ρ s => exact h
  | ok c s =>
    cases c with
    | rt d => exact h
    | nx ρ =>
      have h2 : PoS K w cl W ι0 H0 Dn (if stOk n s = true then RS.ok (.nx (cutRho n ρ)) (s.take n) else .bad) := h
      by_cases hs : stOk n s = true
      · rw [if_pos hs] at h2
        intro ι1 H1 σ1 x1 r1 e1
        obtain ⟨et, xc⟩ := x1.cut hn
        have r2 := stOk_rel r1 hs
        have e2 := RelE.cut (n := n) e1
        rw [et] at r2 e2
        exact h2 ι0 H1 σ1 xc r2 e2
      · rw [if_neg hs] at h2
        exact False.elim h2
    | ct ρ =>
      have h2 : PoS K w cl W ι0 H0 Dn (if stOk n s = true then RS.ok (.ct (cutRho n ρ)) (s.take n) else .bad) := h
      by_cases hs : stOk n s = true
      · rw [if_pos hs] at h2
        intro ι1 H1 σ1 x1 r1 e1
        obtain ⟨et, xc⟩ := x1.cut hn
        have r2 := stOk_rel r1 hs
        have e2 := RelE.cut (n := n) e1
        rw [et] at r2 e2
        exact h2 ι0 H1 σ1 xc r2 e2
      · rw [if_neg hs] at h2
        exact False.elim h2
    | bk ρ =>
      have h2 : PoS K w cl W ι0 H0 Dn (if stOk n s = true then RS.ok (.bk (cutRho n ρ)) (s.take n) else .bad) := h
      by_cases hs : stOk n s = true
      · rw [if_pos hs] at h2
        intro ι1 H1 σ1 x1 r1 e1
        obtain ⟨et, xc⟩ := x1.cut hn
        have r2 := stOk_rel r1 hs
        have e2 := RelE.cut (n := n) e1
        rw [et] at r2 e2
        exact h2 ι0 H1 σ1 xc r2 e2
      · rw [if_neg hs] at h2
        exact False.elim h2
theorem sss_cut {X : Cx} {cl : Str → Option Addr} {W : Wish} {sts : List Stmt} {m : MS} (h : SSs X cl W sts m) : SSs X cl W sts (sCut m) := by
  obtain ⟨t, p, q⟩ := h.ex
  exact ⟨t, p, fun Dn σ H ρ ι s en r hh => q Dn σ H ρ ι s en r (cut_po r.len hh)⟩
end
end Pm
namespace Pm
open PySem PySem.Spec PyProof.Rows L2

/-! ### while -/
def whileN (c : MT) (b : MS) : Nat → Rho → S → Option RS
  | 0, _, _ => none
  | k + 1, ρ, s => match c ρ s with
    | .ok true s1 => (match b ρ s1 with
      | .ok (.nx ρ2) s2 => whileN c b k ρ2 s2
      | .ok (.ct ρ2) s2 => whileN c b k ρ2 s2
      | .ok (.bk ρ2) s2 => some (.ok (.nx ρ2) s2)
      | r => some r)
    | .ok false s1 => some (.ok (.nx ρ) s1)
    | .exc x s1 => some (.exc x ρ s1)
    | .bad => some .bad
open Classical in
noncomputable def sWhile (c : MT) (b : MS) : MS := fun ρ s => if h : ∃ k r, whileN c b k ρ s = some r then h.choose_spec.choose else .bad
theorem whileN_mono (c : MT) (b : MS) : ∀ (k : Nat) (ρ : Rho) (s : S) (r : RS), whileN c b k ρ s = some r → whileN c b (k + 1) ρ s = some r
  | 0, _, _, _, h => by cases h
  | k + 1, ρ, s, r, h => by
    have ih := whileN_mono c b k
    unfold whileN at h ⊢
    cases hc : c ρ s with
    | bad => rw [hc] at h; exact h
    | exc x s1 => rw [hc] at h; exact h
    | ok q s1 =>
      rw [hc] at h
      cases q with
      | false => exact h
      | true =>
        simp only at h ⊢
        cases hb : b ρ s1 with
        | bad => rw [hb] at h; exact h
        | exc x ρ2 s2 => rw [hb] at h; exact h
        | ok c2 s2 =>
          rw [hb] at h
          cases c2 with
          | nx ρ2 => exact ih _ _ _ h
          | ct ρ2 => exact ih _ _ _ h
          | bk ρ2 => exact h
          | rt d => exact h
theorem whileN_le (c : MT) (b : MS) {j k : Nat} (h : j ≤ k) {ρ : Rho} {s : S} {r : RS} (e : whileN c b j ρ s = some r) : whileN c b k ρ s = some r := by
  induction h with
  | refl => exact e
  | step _ ih => exact whileN_mono c b _ _ _ _ ih
theorem sWhile_of {c : MT} {b : MS} {k : Nat} {ρ : Rho} {s : S} {r : RS} (e : whileN c b k ρ s = some r) : sWhile c b ρ s = r := by
  have h : ∃ k r, whileN c b k ρ s = some r := ⟨k, r, e⟩
  unfold sWhile
  rw [dif_pos h]
  have e2 := h.choose_spec.choose_spec
  rcases Nat.le_total k h.choose with hk | hk
  · have := whileN_le c b hk e
    rw [e2] at this
    exact Option.some.inj this
  · have := whileN_le c b hk e2
    rw [e] at this
    exact (Option.some.inj this).symm
/-- one turn -/
theorem sWhile_eq (c : MT) (b : MS) (ρ : Rho) (s : S) : sWhile c b ρ s = match c ρ s with
    | .ok true s1 => (match b ρ s1 with
      | .ok (.nx ρ2) s2 => sWhile c b ρ2 s2
      | .ok (.ct ρ2) s2 => sWhile c b ρ2 s2
      | .ok (.bk ρ2) s2 => .ok (.nx ρ2) s2
      | r => r)
    | .ok false s1 => .ok (.nx ρ) s1
    | .exc x s1 => .exc x ρ s1
    | .bad => .bad := by
  have go : ∀ {ρ2 : Rho} {s2 : S}, (∀ k, whileN c b (k + 1) ρ s = whileN c b k ρ2 s2) → sWhile c b ρ s = sWhile c b ρ2 s2 := fun {ρ2 s2} h => by
    by_cases hh : ∃ k r, whileN c b k ρ2 s2 = some r
    · obtain ⟨k, r, e⟩ := hh
      rw [sWhile_of e, sWhile_of (k := k + 1) (by rw [h]; exact e)]
    · have hn : ¬ ∃ k r, whileN c b k ρ s = some r := fun ⟨k, r, e⟩ => hh ⟨k, r, by rw [← h]; exact whileN_mono c b _ _ _ _ e⟩
      unfold sWhile
      rw [dif_neg hh, dif_neg hn]
  cases hc : c ρ s with
  | bad => exact sWhile_of (k := 1) (by unfold whileN; rw [hc])
  | exc x s1 => exact sWhile_of (k := 1) (by unfold whileN; rw [hc])
  | ok q s1 =>
    cases q with
    | false => exact sWhile_of (k := 1) (by unfold whileN; rw [hc])
    | true =>
      simp only
      cases hb : b ρ s1 with
      | bad => exact sWhile_of (k := 1) (by unfold whileN; rw [hc]; simp only [hb])
      | exc x ρ2 s2 => exact sWhile_of (k := 1) (by unfold whileN; rw [hc]; simp only [hb])
      | ok c2 s2 =>
        cases c2 with
        | nx ρ2 => exact go fun k => by rw [whileN, hc]; simp only [hb]
        | ct ρ2 => exact go fun k => by rw [whileN, hc]; simp only [hb]
        | bk ρ2 => exact sWhile_of (k := 1) (by unfold whileN; rw [hc]; simp only [hb])
        | rt d => exact sWhile_of (k := 1) (by unfold whileN; rw [hc]; simp only [hb])
section
variable {X : Cx} {cl : Str → Option Addr} {W : Wish} {pos : Pos} {c : Expr} {body : List Stmt} {mt : MT} {b : MS}
theorem ss_while (hp : PassesOwn (model X.prog X.w) X.A X.env X.xe) (hc : SB X cl W c mt) (hb : SSs X cl W body b) : SS X cl W (.While c body [] pos) (sWhile mt b) := by
  obtain ⟨t, p1, q1⟩ := hc.ex
  obtain ⟨u, p2, q2⟩ := hb.ex
  refine ⟨_, ps_while hp p1 p2, fun Dn σ H ρ ι s en r h => ?_⟩
  by_cases hh : ∃ k r, whileN mt b k ρ s = some r
  rotate_left
  · unfold sWhile at h
    rw [dif_neg hh] at h
    exact False.elim h
  obtain ⟨k, r0, e⟩ := hh
  rw [sWhile_of e] at h
  refine ⟨fun m σ' H' => ∃ ρ' ι' s' r', RelE X.K X.w cl ι' H' ρ' σ' ∧ RelS X.K X.w cl ι' s' H' ∧ whileN mt b m ρ' s' = some r' ∧ PoS X.K X.w cl W ι' H' Dn r', ⟨k, ρ, ι, s, r0, en, r, e, h⟩, ?_⟩
  rintro m σ2 H2 ⟨ρ2, ι2, s2, r2, en2, rs2, e2, h2⟩
  cases m with
  | zero => cases e2
  | succ m =>
  unfold whileN at e2
  refine q1 σ2 H2 _ ρ2 ι2 s2 en2 rs2 ?_
  cases ec : mt ρ2 s2 with
  | bad => rw [ec] at e2; cases e2; exact h2
  | exc x s3 => rw [ec] at e2; cases e2; exact fun ι3 H3 c d x3 r3 rx => h2 ι3 H3 σ2 c d x3 r3 (en2.ext x3) rx
  | ok q s3 =>
  rw [ec] at e2
  intro ι3 H3 x3 r3
  cases q with
  | false =>
    cases e2
    exact h2 ι3 H3 σ2 x3 r3 (en2.ext x3)
  | true =>
    simp only at e2
    rw [if_pos rfl]
    refine ⟨fun σ' H' => ∃ ρ' ι' s' r', RelE X.K X.w cl ι' H' ρ' σ' ∧ RelS X.K X.w cl ι' s' H' ∧ whileN mt b m ρ' s' = some r' ∧ PoS X.K X.w cl W ι' H' Dn r', fun σ' H' z => ⟨m, Nat.lt_succ_self m, z⟩, ?_⟩
    refine q2 _ σ2 H3 ρ2 ι3 s3 (en2.ext x3) r3 ?_
    have h3 := PoS.ext x3 h2
    cases eb : b ρ2 s3 with
    | bad => rw [eb] at e2; cases e2; exact h3
    | exc x ρ4 s4 => rw [eb] at e2; cases e2; exact h3
    | ok c4 s4 =>
      rw [eb] at e2
      cases c4 with
      | nx ρ4 => exact fun ι4 H4 σ4 x4 r4 en4 => ⟨ρ4, ι4, s4, r2, en4, r4, e2, PoS.ext x4 h3⟩
      | ct ρ4 => exact fun ι4 H4 σ4 x4 r4 en4 => ⟨ρ4, ι4, s4, r2, en4, r4, e2, PoS.ext x4 h3⟩
      | bk ρ4 => cases e2; exact h3
      | rt d => cases e2; exact h3
end

/-! ### fields, new instances -/
def insOf (s : S) : D → Option (Str × List (Str × D))
  | .ins c fs => some (c, fs)
  | .ref n => match s[n]? with
    | some (.ins c fs) => some (c, fs)
    | _ => none
  | _ => none
/-- o.f, the class of o one of cs -/
def mFld (f : Str) (cs : List Str) (m : ME) : ME := fun ρ s => (m ρ s).bind fun d s1 => match insOf s1 d with
  | some (c, fs) => if c ∈ cs then (match fs.lookup f with
    | some v => .ok v s1
    | none => .bad) else .bad
  | none => .bad
def putFD (f : Str) (v : D) : List (Str × D) → List (Str × D)
  | [] => [(f, v)]
  | (g, u) :: r => if g = f then (g, v) :: r else (g, u) :: putFD f v r
/-- o.f = v -/
def sFldD (f : Str) (cs : List Str) (mo mv : ME) : MS := fun ρ s => (mv ρ s).st ρ fun v s1 => (mo ρ s1).st ρ fun d s2 => match d with
  | .ref n => (match s2[n]? with
    | some (.ins c fs) => if c ∈ cs ∧ fs.length < 1000 then .ok (.nx ρ) (s2.set n (.ins c (putFD f v fs))) else .bad
    | _ => .bad)
  | _ => .bad
/-- C(..) -/
def mMake (c : Str) (G : List D → S → R D) (ms : MA) : ME := fun ρ s => (ms ρ s).bind fun ds s1 => match G (.ref s1.length :: ds) (s1 ++ [.ins c []]) with
  | .ok .non s2 => .ok (.ref s1.length) s2
  | .exc x s2 => .exc x s2
  | _ => .bad
section
variable {X : Cx} {cl : Str → Option Addr} {W : Wish} {pos pos' p : Pos} {e o value : Expr} {m mo mv : ME}
theorem fs_lookup {K : PySem.W.Frag} {w : World} {ι : List Addr} {H : Hp} {f : Str} {d : D} : ∀ {fs : List (Str × D)} {vs : List (Str × V)}, RelFs K w cl ι H fs vs → fs.lookup f = some d → ∃ v, vs.lookup f = some v ∧ RelD K w cl ι H d v := by
  intro fs vs r e
  have := kdx_lookup r f
  rw [e] at this
  exact this
theorem fs_len {K : PySem.W.Frag} {w : World} {ι : List Addr} {H : Hp} : ∀ {fs : List (Str × D)} {vs : List (Str × V)}, RelFs K w cl ι H fs vs → fs.length = vs.length
  | _, _, .nil => rfl
  | _, _, .cons _ t => congrArg (· + 1) (fs_len t)
theorem fs_put {K : PySem.W.Frag} {w : World} {ι : List Addr} {H : Hp} {f : Str} {d : D} {v : V} (rd : RelD K w cl ι H d v) : ∀ {fs : List (Str × D)} {vs : List (Str × V)}, RelFs K w cl ι H fs vs → RelFs K w cl ι H (putFD f d fs) (putF f v vs)
  | _, _, .nil => .cons rd .nil
  | _, _, .cons (f := g) r t => by
    unfold putFD putF
    by_cases hg : g = f
    · rw [if_pos hg, if_pos hg]; exact .cons rd t
    · rw [if_neg hg, if_neg hg]; exact .cons r (fs_put rd t)
theorem insOf_at {K : PySem.W.Frag} {w : World} {ι : List Addr} {H : Hp} {s : S} {d : D} {v : V} {c : Str} {fs : List (Str × D)} (rs : RelS K w cl ι s H) (r : RelD K w cl ι H d v) (h : insOf s d = some (c, fs)) :
    ∃ a A dx vs, v = .ref a ∧ cl c = some A ∧ Cls K A ∧ H a = some (.ins A dx vs) ∧ RelFs K w cl ι H fs vs := by
  cases r <;> simp only [insOf] at h <;> try cases h
  · rename_i n a hn
    split at h
    · rename_i c' fs' e
      cases h
      obtain ⟨a', ea, A, dx, vs, hc, hk, hv, rv⟩ := rs.at_ n _ e
      rw [hn] at ea
      cases ea
      exact ⟨_, A, dx, vs, rfl, hc, hk, hv, rv⟩
    · cases h
  · rename_i hk h1 ha hc r1
    exact ⟨_, _, _, _, rfl, hc, hk, h1, r1⟩
theorem se_fld (f : Str) (cs : List Str) (hn : ∀ c ∈ cs, ∀ A, cl c = some A → NoAttr X.K A f) (he : SE X cl W e m) (hb : attributeBase e f X.env (eval e X.env) = eval e X.env := by rfl) : SE X cl W (.Attribute e f pos) (mFld f cs m) := by
  obtain ⟨t, p1, q1⟩ := he.ex
  refine ⟨_, pe_fld p1 hb, fun σ H Q ρ ι s en r h => ?_⟩
  refine q1 σ H _ ρ ι s en r (PoE.step h fun d s1 ι1 H1 v e1 x1 r1 d1 h1 => ?_)
  split at h1
  · rename_i c fs ei
    split at h1
    · rename_i hc
      split at h1
      · rename_i dv el
        obtain ⟨a, A, dx, vs, rfl, hcl, hk, ha, rf⟩ := insOf_at r1 d1 ei
        obtain ⟨v2, ev, rv⟩ := fs_lookup rf el
        exact ⟨a, A, dx, vs, v2, rfl, ha, hk, hn c hc A hcl, ev, h1 ι1 H1 v2 (Ext.refl _ _) r1 rv⟩
      · exact False.elim h1
    · exact False.elim h1
  · exact False.elim h1
theorem ss_fld (f : Str) (cs : List Str) (hn : ∀ c ∈ cs, ∀ A, cl c = some A → NoAttr X.K A f) (ho : SE X cl W o mo) (hv : SE X cl W value mv) (hs : swapsWith value (some (.Attribute o f pos')) pos.line X.env = pure false := by rfl) : SS X cl W (.Assign [.Attribute o f pos'] value pos) (sFldD f cs mo mv) := by
  obtain ⟨t, p1, q1⟩ := ho.ex
  obtain ⟨u, p2, q2⟩ := hv.ex
  refine ⟨_, ps_fld p1 p2 hs, fun Dn σ H ρ ι s en r h => ?_⟩
  refine q2 σ H _ ρ ι s en r (PoS.stepE en h fun d s1 ι1 H1 v e1 x1 r1 d1 h1 => ?_)
  refine q1 σ H1 _ ρ ι1 s1 (en.ext x1) r1 (PoS.stepE (en.ext x1) h1 fun d2 s2 ι2 H2 v2 e2 x2 r2 dd2 h2 => ?_)
  cases dd2 with
  | @ref n a hn2 =>
    simp only at h2
    cases e5 : s2[n]? with
    | none => rw [e5] at h2; exact False.elim h2
    | some ob =>
    cases ob with
    | lst xs => rw [e5] at h2; exact False.elim h2
    | ins c fs =>
    rw [e5] at h2
    simp only at h2
    split at h2
    · rename_i hc
      obtain ⟨a', ea, A, dx, vs, hcl, hk, ha, rf⟩ := r2.at_ n _ e5
      rw [hn2] at ea
      obtain rfl := Option.some.inj ea
      have hm := List.mem_of_getElem? hn2
      refine ⟨_, A, dx, vs, rfl, ha, hk, hn c hc.1 A hcl, by rw [← fs_len rf]; exact hc.2, ?_⟩
      have xw := Ext.write (ι := ι2) (H := H2) (o := HO.ins A dx (putF f v vs)) hm
      exact h2 ι2 _ σ xw (r2.write hn2 ⟨A, dx, _, hcl, hk, upd_same, fs_put ((d1.ext x2).ext xw) (by
        have := rf
        exact (RelFs.ext xw this))⟩) (((en.ext x1).ext x2).ext xw)
    · exact False.elim h2
  | _ => exact False.elim h2
/-- a new instance, what its __init__ lets out told at the slots -/
def tNewS (C : Addr) (sp : Sp) (W : Wish) (t : TA) : TE := fun σ H Q => t σ H fun vs H1 => ∀ x dx, H1 x = none → H1 dx = none → dx ≠ x →
  sp (.ref x :: vs) (upd (upd H1 dx (.own x)) x (.ins C dx [])) (fun v H2 => v = .non ∧ Q (.ref x) H2) (WE W σ)
section
variable {x : Str} {es : List Expr} {ms : MA} {f C : Addr} {fd : FuncData} {ps : List Str} {k n : Nat} {G : List D → S → R D} {sp : Sp} {t : TA}
theorem run_new (tk : Takes X W) {pins : List (Addr × Obj)} {σ : L2.St} {H : Hp} {s : Shared} {Q : VK} {us : List Value} {vs : List V} (M : Mk X.K C f) (F : FnOk X.prog X.w X.K X.mg X.base (L2.CX X.prog X.w) k f fd ps sp) (hr : Room (k + 1) X.A) (hb : Binds X.K fd ps [])
    (I : Inv X pins σ H s) (r : Vals vs us) (h : ∀ x dx, H x = none → H dx = none → dx ≠ x → sp (.ref x :: vs) (upd (upd H dx (.own x)) x (.ins C dx [])) (fun v H2 => v = .non ∧ Q (.ref x) H2) (WE W σ)) :
    wpAny (model X.prog X.w) X.A (call (.ref C) us) (EP X pins σ Q) X.xe s := by
  have hq := h (s.heap.objs.size + 1) s.heap.objs.size (I.hok.fresh (Nat.le_succ _)) (I.hok.fresh (Nat.le_refl _)) (Nat.ne_of_lt (Nat.lt_succ_self _))
  have J := Inv.made (C := C) I
  have rr : Vals (V.ref (s.heap.objs.size + 1) :: vs) (Value.ref (s.heap.objs.size + 1) :: us) := .cons rfl r
  have hl : (Value.ref (s.heap.objs.size + 1) :: us ++ []).length = ps.length := by
    rw [List.append_nil, ← rr.length]
    exact F.len _ _ _ _ hq
  have hb2 := hb _ (Value.ref (s.heap.objs.size + 1) :: us) J.kIn hl
  rw [List.append_nil] at hb2
  have run := F.run _ X.stack _ _ ⟨Value.ref (s.heap.objs.size + 1) :: us, []⟩ _ _ _ (WE W σ) (hr.make C us []) (J.env0.make C us []) hb2 rr hq
  refine wpAny_call (make_map (f := f) I.kIn M.makes M.init (beq_iff_eq.mp M.fn) (codeAny_mono run fun res s' hres => ?_))
  match res, hres with
  | .error ex, hres => exact passAt tk σ pins _ _ ex s' J hres
  | .ok .next, hres => exact False.elim hres
  | .ok .brk, hres => exact False.elim hres
  | .ok .cont, hres => exact False.elim hres
  | .ok (.ret u), hres =>
    obtain ⟨v, H', J', rv, ev, q⟩ := J.after hres
    subst ev
    exact ⟨rv, V.ref (s.heap.objs.size + 1), H', J', rfl, q⟩
theorem pe_new (tk : Takes X W) (M : Mk X.K C f) (F : FnOk X.prog X.w X.K X.mg X.base (L2.CX X.prog X.w) k f fd ps sp) (hr : Room (k + 1) X.A) (hg : Gl X x) (hm : X.mg x = some (.ref C)) (hb : Binds X.K fd ps []) (ha : PA X (e :: es) t)
    (hdb : (x == ("__debug__" : Str)) = false := by decide) (he : starEach (e :: es) X.env = (false, eval e X.env) :: starEach es X.env := by rfl) (hpl : (backTo pos (starEach es X.env)).any (·.1) = false := by rfl) :
    PE X (.Call (.Name x p) (e :: es) [] pos) (tNewS C sp W t) := by
  refine ⟨fun pins s σ H Q I h => wpAny_Call_Name_kw (ld_glob I hg hm ?_ hdb)⟩
  refine PySem.W.callWith_K (h₀ := X.base) I.ok.mod.kin M.kp (thn (ha.run pos pins s σ H _ I h) fun us s1 ⟨vs, H1, I1, r, q⟩ => ⟨I1.kIn, ?_⟩) he hpl
  exact run_new tk M F hr hb I1 r q
theorem se_make (c : Str) (hc : cl c = some C) (hk : Cls X.K C) (tk : Takes X W) (M : Mk X.K C f) (F : FnOk X.prog X.w X.K X.mg X.base (L2.CX X.prog X.w) k f fd ps (spD X.K X.w cl n G)) (hn : ∀ ds s, ds.length ≠ n → G ds s = .bad) (hr : Room (k + 1) X.A) (hg : Gl X x) (hm : X.mg x = some (.ref C)) (hb : Binds X.K fd ps [])
    (ha : SA X cl W (e :: es) ms) (hdb : (x == ("__debug__" : Str)) = false := by decide) (he : starEach (e :: es) X.env = (false, eval e X.env) :: starEach es X.env := by rfl) (hpl : (backTo pos (starEach es X.env)).any (·.1) = false := by rfl) :
    SE X cl W (.Call (.Name x p) (e :: es) [] pos) (mMake c G ms) := by
  obtain ⟨ta, pa, qa⟩ := ha.ex
  refine ⟨_, pe_new tk M F hr hg hm hb pa hdb he hpl, fun σ H Q ρ ι s en r h => ?_⟩
  refine qa σ H _ ρ ι s en r (PoE.stepA h fun ds s1 ι1 H1 vs e1 x1 r1 d1 h1 => ?_)
  intro x dx nx ndx hne
  have xa : Ext ι1 H1 ι1 (upd H1 dx (.own x)) := Ext.new ndx
  have nx2 : upd H1 dx (.own x) x = none := by rw [upd_ne (Ne.symm hne)]; exact nx
  have xb : Ext ι1 (upd H1 dx (.own x)) (ι1 ++ [x]) (upd (upd H1 dx (.own x)) x (.ins C dx [])) := Ext.push nx2
  have r2 : RelS X.K X.w cl (ι1 ++ [x]) (s1 ++ [.ins c []]) (upd (upd H1 dx (.own x)) x (.ins C dx [])) := (r1.laid ndx).push nx2 ⟨C, dx, [], hc, hk, upd_same, .nil⟩
  have hx : (ι1 ++ [x])[s1.length]? = some x := by rw [List.getElem?_append_right (by rw [r1.len]; exact Nat.le_refl _), r1.len]; simp
  have rd : RelDs X.K X.w cl (ι1 ++ [x]) (upd (upd H1 dx (.own x)) x (.ins C dx [])) (.ref s1.length :: ds) (.ref x :: vs) := .cons (.ref hx) ((d1.ext xa).ext xb)
  have x12 := xa.trans xb
  refine call_po (W := W) hn r2 rd ?_
  cases hG : G (.ref s1.length :: ds) (s1 ++ [.ins c []]) with
  | bad => rw [hG] at h1; exact h1
  | exc xx s2 => rw [hG] at h1; exact fun ι3 H3 cc dd x3 => h1 ι3 H3 cc dd (x12.trans x3)
  | ok d s2 =>
    rw [hG] at h1
    cases d with
    | non =>
      intro ι3 H3 v x3 r3 rv
      cases rv
      exact ⟨rfl, h1 ι3 H3 (.ref x) (x12.trans x3) r3 (.ref (x3.at hx))⟩
    | _ => exact False.elim h1
end
end
end Pm
namespace Pm
open PySem PySem.Spec PyProof.Rows L2

/-! ### built-in calls -/
def dLen : List D → S → R D
  | [.str z], s => if z.length ≤ sizeLine then .ok (.int z.length) s else .bad
  | [.tup xs], s => .ok (.int xs.length) s
  | [d], s => match lview s d with
    | some xs => .ok (.int xs.length) s
    | none => .bad
  | _, _ => .bad
def dInt : List D → S → R D
  | [.int i], s => .ok (.int i) s
  | [.bl b], s => .ok (.int (if b then 1 else 0)) s
  | _, _ => .bad
def dAbs : List D → S → R D
  | [.int i], s => .ok (.int (if i < 0 then -i else i)) s
  | _, _ => .bad
def dMin2 : List D → S → R D
  | [.int i, .int j], s => .ok (.int (if j < i then j else i)) s
  | _, _ => .bad
def dMax2 : List D → S → R D
  | [.int i, .int j], s => .ok (.int (if j > i then j else i)) s
  | _, _ => .bad
def sview (s : S) : D → Option (List D)
  | .tup xs => some xs
  | d => lview s d
/-- list(x): a finished one, or a thing of the store -/
def dList (new : Bool) : List D → S → R D
  | [d], s => match sview s d with
    | some xs => if new then .ok (.ref s.length) (s ++ [.lst xs]) else .ok (.lst xs) s
    | none => .bad
  | _, _ => .bad
def dTuple : List D → S → R D
  | [d], s => match sview s d with
    | some xs => .ok (.tup xs) s
    | none => .bad
  | _, _ => .bad
section
variable {X : Cx} {cl : Str → Option Addr} {W : Wish}
theorem d_len : CallD X cl (.builtin "len") dLen := by
  intro W ι H σ Q s ds xs rs rds h
  unfold dLen at h
  split at h
  · obtain ⟨v, rfl, r⟩ := rds.one
    cases r
    split at h
    · exact ⟨_, call_len_str, _, rfl, by assumption, h ι H _ (Ext.refl _ _) rs (.int _)⟩
    · exact False.elim h
  · obtain ⟨v, rfl, r⟩ := rds.one
    cases r with
    | tup h1 r1 => exact ⟨_, call_len_seq, _, _, rfl, .inr h1.sq, by rw [← r1.length]; exact h ι H _ (Ext.refl _ _) rs (.int _)⟩
  · obtain ⟨v, rfl, r⟩ := rds.one
    split at h
    · rename_i ys e
      obtain ⟨a, vs, rfl, hl, r1⟩ := lview_at rs r e
      exact ⟨_, call_len_seq, _, _, rfl, .inl hl.sq, by rw [← r1.length]; exact h ι H _ (Ext.refl _ _) rs (.int _)⟩
    · exact False.elim h
  · exact False.elim h
theorem d_int : CallD X cl (.type "int") dInt := by
  intro W ι H σ Q s ds xs rs rds h
  unfold dInt at h
  split at h
  · obtain ⟨v, rfl, r⟩ := rds.one
    cases r
    exact ⟨_, call_int1, .inl ⟨_, rfl, h ι H _ (Ext.refl _ _) rs (.int _)⟩⟩
  · obtain ⟨v, rfl, r⟩ := rds.one
    cases r
    exact ⟨_, call_int1, .inr ⟨_, rfl, h ι H _ (Ext.refl _ _) rs (.int _)⟩⟩
  · exact False.elim h
theorem d_abs : CallD X cl (.builtin "abs") dAbs := by
  intro W ι H σ Q s ds xs rs rds h
  unfold dAbs at h
  split at h
  · obtain ⟨v, rfl, r⟩ := rds.one
    cases r
    exact ⟨_, call_abs, _, rfl, h ι H _ (Ext.refl _ _) rs (.int _)⟩
  · exact False.elim h
theorem d_min2 (hc : X.calm = true) : CallD X cl (.builtin "min") dMin2 := by
  intro W ι H σ Q s ds xs rs rds h
  unfold dMin2 at h
  split at h
  · obtain ⟨v, u, rfl, r, q⟩ := rds.two
    cases r; cases q
    exact ⟨_, call_min2 hc, _, _, rfl, h ι H _ (Ext.refl _ _) rs (.int _)⟩
  · exact False.elim h
theorem d_max2 (hc : X.calm = true) : CallD X cl (.builtin "max") dMax2 := by
  intro W ι H σ Q s ds xs rs rds h
  unfold dMax2 at h
  split at h
  · obtain ⟨v, u, rfl, r, q⟩ := rds.two
    cases r; cases q
    exact ⟨_, call_max2 hc, _, _, rfl, h ι H _ (Ext.refl _ _) rs (.int _)⟩
  · exact False.elim h
theorem sview_at {K : PySem.W.Frag} {w : World} {ι : List Addr} {H : Hp} {s : S} {d : D} {xs : List D} {v : V} (rs : RelS K w cl ι s H) (r : RelD K w cl ι H d v) (h : sview s d = some xs) :
    ∃ a vs, v = .ref a ∧ ((SqL K H a vs) ∨ (SqT K H a vs ∧ d = .tup xs)) ∧ RelDs K w cl ι H xs vs := by
  unfold sview at h
  split at h
  · cases h
    cases r with
    | tup h1 r1 => exact ⟨_, _, rfl, .inr ⟨h1.sq, rfl⟩, r1⟩
  · obtain ⟨a, vs, e, hl, r1⟩ := lview_at rs r h
    exact ⟨a, vs, e, .inl hl.sq, r1⟩
theorem d_list (new : Bool) : CallD X cl (.type "list") (dList new) := by
  intro W ι H σ Q s ds xs rs rds h
  unfold dList at h
  split at h
  · obtain ⟨v, rfl, r⟩ := rds.one
    split at h
    · rename_i ys e
      obtain ⟨a, vs, rfl, hl, r1⟩ := sview_at rs r e
      refine ⟨_, call_list_of, a, vs, rfl, hl.imp id (·.1), fun l hn => ?_⟩
      cases new with
      | true => obtain ⟨x, y, z⟩ := new_ref rs r1 hn; exact h _ _ _ x y z
      | false => obtain ⟨x, y, z⟩ := new_lst rs r1 hn; exact h _ _ _ x y z
    · exact False.elim h
  · exact False.elim h
theorem d_tuple : CallD X cl (.type "tuple") dTuple := by
  intro W ι H σ Q s ds xs rs rds h
  unfold dTuple at h
  split at h
  · obtain ⟨v, rfl, r⟩ := rds.one
    split at h
    · rename_i ys e
      obtain ⟨a, vs, rfl, hl, r1⟩ := sview_at rs r e
      refine ⟨_, call_tuple_of, a, vs, rfl, ?_⟩
      rcases hl with hl | ⟨hl, rfl⟩
      · exact .inl ⟨hl, fun l hn => by obtain ⟨x, y, z⟩ := new_tup rs r1 hn; exact h _ _ _ x y z⟩
      · exact .inr ⟨hl, h ι H _ (Ext.refl _ _) rs r⟩
    · exact False.elim h
  · exact False.elim h
variable {x : Str} {id T : String} {pos p : Pos} {e : Expr} {es : List Expr} {ms : MA} {g : List D → S → R D}
theorem se_callB (hc : CallD X cl (.builtin id) g) (hg : Gl X x) (hm : X.mg x = none) (hv : bootBuiltins x = some (.builtin id)) (ha : SA X cl W (e :: es) ms) (hn : x ≠ "__name__" := by decide) (hdb : (x == ("__debug__" : Str)) = false := by decide)
    (he : starEach (e :: es) X.env = (false, eval e X.env) :: starEach es X.env := by rfl) (hpl : (backTo pos (starEach es X.env)).any (·.1) = false := by rfl) : SE X cl W (.Call (.Name x p) (e :: es) [] pos) (mN g ms) := by
  obtain ⟨ta, pa, qa⟩ := ha.ex
  refine ⟨_, pe_callB anyCall hg hm hv pa hn hdb he hpl, fun σ H Q ρ ι s en r h => ?_⟩
  exact qa σ H _ ρ ι s en r (PoE.stepA h fun ds s1 ι1 H1 vs e1 x1 r1 d1 h1 => hc W ι1 H1 σ Q s1 ds vs r1 d1 h1)
theorem se_callTy (hc : CallD X cl (.type T) g) (hg : Gl X x) (hm : X.mg x = none) (hv : bootBuiltins x = some (.type T)) (ha : SA X cl W (e :: es) ms) (hn : x ≠ "__name__" := by decide) (hdb : (x == ("__debug__" : Str)) = false := by decide)
    (he : starEach (e :: es) X.env = (false, eval e X.env) :: starEach es X.env := by rfl) (hpl : (backTo pos (starEach es X.env)).any (·.1) = false := by rfl) : SE X cl W (.Call (.Name x p) (e :: es) [] pos) (mN g ms) := by
  obtain ⟨ta, pa, qa⟩ := ha.ex
  refine ⟨_, pe_callTy anyCall hg hm hv pa hn hdb he hpl, fun σ H Q ρ ι s en r h => ?_⟩
  exact qa σ H _ ρ ι s en r (PoE.stepA h fun ds s1 ι1 H1 vs e1 x1 r1 d1 h1 => hc W ι1 H1 σ Q s1 ds vs r1 d1 h1)
end

/-! ### isinstance with built-in types -/
def tyName (s : S) : D → Option String
  | .non => some "NoneType"
  | .bl _ => some "bool"
  | .int _ => some "int"
  | .str _ => some "str"
  | .tup _ => some "tuple"
  | .lst _ => some "list"
  | .ref n => match s[n]? with
    | some (.lst _) => some "list"
    | _ => none
  | _ => none
def isSub (a b : String) : Bool := a == b || (a == "bool" && b == "int")
def okTy (b : String) : Bool := ["tuple", "list", "int", "str", "bool"].contains b
def mIsi (tys : List String) (m : ME) : ME := fun ρ s => (m ρ s).bind fun d s1 => match tyName s1 d with
  | some a => .ok (.bl (tys.any (isSub a))) s1
  | none => .bad
section
variable {X : Cx} {cl : Str → Option Addr} {W : Wish} {K : PySem.W.Frag} {w : World} {ι : List Addr} {H : Hp} {s : S}
theorem kitB_ok {a b : String} (ha : a ∈ ["NoneType", "bool", "int", "str", "tuple", "list"]) (hb : okTy b = true) : kitB a b = some (isSub a b) := by
  have hb' : b ∈ ["tuple", "list", "int", "str", "bool"] := by simpa [okTy] using hb
  simp only [List.mem_cons, List.not_mem_nil, or_false] at ha hb'
  rcases ha with rfl | rfl | rfl | rfl | rfl | rfl <;> rcases hb' with rfl | rfl | rfl | rfl | rfl <;> decide +kernel
theorem tyName_mem {d : D} {a : String} (h : tyName s d = some a) : a ∈ ["NoneType", "bool", "int", "str", "tuple", "list"] := by
  cases d <;> simp only [tyName] at h <;> (try cases h) <;> (try decide)
  split at h
  · cases h; decide
  · cases h
theorem kitAny_ok {a : String} (ha : a ∈ ["NoneType", "bool", "int", "str", "tuple", "list"]) : ∀ {tys : List String}, tys.all okTy = true → PySem.W.kitAny K (.type a) (tys.map Value.type) = some (tys.any (isSub a))
  | [], _ => rfl
  | b :: tys, h => by
    rw [List.all_cons, Bool.and_eq_true] at h
    have ih := kitAny_ok ha (tys := tys) h.2
    refine kitAny_cons (kit_ty (kitB_ok ha h.1)) (fun e => ?_) (fun e => ?_)
    · rw [ih, List.any_cons, e, Bool.false_or]
    · rw [List.any_cons, e, Bool.true_or]
theorem tyName_X {d : D} {v : V} {a : String} (rs : RelS K w cl ι s H) (r : RelD K w cl ι H d v) (h : tyName s d = some a) : TyX K H v (.type a) := by
  cases r <;> simp only [tyName] at h <;> (try cases h)
  · exact .base .non
  · exact .base (.bl _)
  · exact .base (.int _)
  · exact .base (.str _)
  · rename_i h1 _
    rcases h1 with ⟨h1 | ⟨o, h1⟩, _⟩ | ⟨o, its, n, h1, h2, _⟩
    · exact .base (.tup h1)
    · exact .fTuple h1
    · exact .kTuple h1 h2
  · rename_i h1 _
    rcases h1 with ⟨h1 | ⟨o, h1⟩, _⟩ | ⟨o, its, n, h1, h2, _⟩
    · exact .base (.lst h1)
    · exact .base (.frz h1)
    · exact .kList h1 h2
  · rename_i n a' hn
    split at h
    · rename_i xs e
      cases h
      obtain ⟨a2, ea, vs, hv, _⟩ := rs.at_ n _ e
      rw [hn] at ea
      cases ea
      exact .base (.lst hv)
    · cases h
/-- the classes: names of built-in types -/
inductive TyNames (X : Cx) : List Expr → List String → Prop
  | nil : TyNames X [] []
  | cons {x : Str} {T : String} {pos : Pos} {es : List Expr} {ts : List String} (h : PE X (.Name x pos) (tC (.ty T))) (hs : starEach (.Name x pos :: es) X.env = (false, eval (.Name x pos) X.env) :: starEach es X.env) (t : TyNames X es ts) : TyNames X (.Name x pos :: es) (T :: ts)
theorem TyNames.pa : ∀ {es : List Expr} {ts : List String}, TyNames X es ts → ∃ t, PA X es t ∧ ∀ σ H Q, Q (ts.map V.ty) H → t σ H Q
  | _, _, .nil => ⟨_, pa_nil, fun _ _ _ h => h⟩
  | _, _, .cons h hs t => by
    obtain ⟨u, p, q⟩ := TyNames.pa t
    exact ⟨_, pa_cons h p hs, fun σ H Q hq => q σ H _ hq⟩
theorem paired_ty : ∀ ts : List String, Paired ClsV (ts.map V.ty) (ts.map Value.type)
  | [] => .nil
  | t :: ts => .cons (.ty t) (paired_ty ts)
variable {e : Expr} {es : List Expr} {m : ME} {pos p tpos npos : Pos} {k : Nat} {tys : List String} {x : Str} {T : String}
theorem pe_tyn {x : Str} {T : String} {pos : Pos} (hg : Gl X x) (hm : X.mg x = none) (hv : bootBuiltins x = some (.type T)) (hn : x ≠ "__name__" := by decide) (hd : (x == ("__debug__" : Str)) = false := by decide) : PE X (.Name x pos) (tC (.ty T)) := pe_bltn hg hm hv rfl hn hd
theorem se_isiT (hg : Gl X "isinstance") (hm : X.mg "isinstance" = none) (he : SE X cl W e m) (ht : TyNames X es tys) (hok : tys.all okTy = true) (hlen : tys.length ≤ sizeLine)
    (hs : starEach (e :: [.Tuple es k tpos]) X.env = (false, eval e X.env) :: starEach [.Tuple es k tpos] X.env := by rfl) (hs2 : starEach (.Tuple es k tpos :: []) X.env = (false, eval (.Tuple es k tpos) X.env) :: starEach [] X.env := by rfl)
    (hpl : (backTo pos (starEach [.Tuple es k tpos] X.env)).any (·.1) = false := by rfl) : SE X cl W (.Call (.Name "isinstance" p) [e, .Tuple es k tpos] [] pos) (mIsi tys m) := by
  obtain ⟨t, p1, q1⟩ := he.ex
  obtain ⟨u, p2, q2⟩ := ht.pa
  refine ⟨_, pe_callB call_isiT hg hm boot_isinstance (pa_cons p1 (pa_cons (pe_tup p2) pa_nil hs2) hs) (by decide) (by decide) hs hpl, fun σ H Q ρ ι s en r h => ?_⟩
  refine q1 σ H _ ρ ι s en r (PoE.step h fun d s1 ι1 H1 v e1 x1 r1 d1 h1 => ?_)
  split at h1
  · rename_i a ea
    refine q2 σ H1 _ ⟨by rw [List.length_map]; exact hlen, fun tp htp => ?_⟩
    obtain ⟨xn, rn⟩ := And.intro (Ext.new (ι := ι1) (o := HO.tup (tys.map V.ty)) htp) (r1.laid (o := HO.tup (tys.map V.ty)) htp)
    exact ⟨v, tp, _, _, _, _, rfl, upd_same, paired_ty tys, tyName_X rn (d1.ext xn) ea, kitAny_ok (tyName_mem ea) hok, h1 ι1 _ _ xn rn (.bl _)⟩
  · exact False.elim h1
theorem se_isi1 (hg : Gl X "isinstance") (hm : X.mg "isinstance" = none) (he : SE X cl W e m) (ht : PE X (.Name x npos) (tC (.ty T))) (hok : okTy T = true)
    (hs : starEach (e :: [.Name x npos]) X.env = (false, eval e X.env) :: starEach [.Name x npos] X.env := by rfl) (hs2 : starEach (.Name x npos :: []) X.env = (false, eval (.Name x npos) X.env) :: starEach [] X.env := by rfl)
    (hpl : (backTo pos (starEach [.Name x npos] X.env)).any (·.1) = false := by rfl) : SE X cl W (.Call (.Name "isinstance" p) [e, .Name x npos] [] pos) (mIsi [T] m) := by
  obtain ⟨t, p1, q1⟩ := he.ex
  refine ⟨_, pe_callB call_isi hg hm boot_isinstance (pa_cons p1 (pa_cons ht pa_nil hs2) hs) (by decide) (by decide) hs hpl, fun σ H Q ρ ι s en r h => ?_⟩
  refine q1 σ H _ ρ ι s en r (PoE.step h fun d s1 ι1 H1 v e1 x1 r1 d1 h1 => ?_)
  split at h1
  · rename_i a ea
    refine ⟨v, _, _, _, _, rfl, .ty T, tyName_X r1 d1 ea, kit_ty (kitB_ok (tyName_mem ea) hok), ?_⟩
    have := h1 ι1 H1 _ (Ext.refl _ _) r1 (.bl _)
    simpa using this
  · exact False.elim h1
end

/-! ### methods of built-in types -/
def hasTy (T : String) (s : S) (d : D) : Bool := match T, d with
  | "str", .str _ => true
  | "list", d => (lview s d).isSome
  | _, _ => false
def mMt (T : String) (f : D → List D → S → R D) (a : ME) (as : MA) : ME := fun ρ s => (a ρ s).bind fun x s1 => if hasTy T s1 x = true then (as ρ s1).bind fun xs s2 => f x xs s2 else .bad
def MtD (X : Cx) (cl : Str → Option Addr) (id : String) (g : D → List D → S → R D) : Prop :=
  ∀ (W : Wish) (ι : List Addr) (H : Hp) (σ : L2.St) (Q : VK) (s : S) (dx : D) (ds : List D) (x : V) (xs : List V), RelS X.K X.w cl ι s H → RelD X.K X.w cl ι H dx x → RelDs X.K X.w cl ι H ds xs → PoE X.K X.w cl W ι H σ Q (g dx ds s) → AnyMt X id x xs H Q
def dAppend : D → List D → S → R D
  | .ref n, [d], s => (match s[n]? with
    | some (.lst xs) => if xs.length < sizeLine then .ok .non (s.set n (.lst (xs ++ [d]))) else .bad
    | _ => .bad)
  | _, _, _ => .bad
def dPop : D → List D → S → R D
  | .ref n, [], s => (match s[n]? with
    | some (.lst xs) => (match xs[xs.length - 1]? with
      | some d => .ok d (s.set n (.lst xs.dropLast))
      | none => .bad)
    | _ => .bad)
  | _, _, _ => .bad
def dReverse : D → List D → S → R D
  | .ref n, [], s => (match s[n]? with
    | some (.lst xs) => .ok .non (s.set n (.lst xs.reverse))
    | _ => .bad)
  | _, _, _ => .bad
def dSplit : D → List D → S → R D
  | .str a, [.str b], s => if b.length ≠ 0 ∧ a.length + 2 ≤ sizeLine then .ok (.lst ((Txt.split a b).map .str)) s else .bad
  | _, _, _ => .bad
section
variable {X : Cx} {cl : Str → Option Addr} {W : Wish}
theorem lst_at {K : PySem.W.Frag} {w : World} {ι : List Addr} {H : Hp} {s : S} {n : Nat} {v : V} {xs : List D} (rs : RelS K w cl ι s H) (r : RelD K w cl ι H (.ref n) v) (e : s[n]? = some (.lst xs)) :
    ∃ a vs, v = .ref a ∧ ι[n]? = some a ∧ H a = some (.lst vs) ∧ RelDs K w cl ι H xs vs := by
  cases r with
  | ref hn =>
    obtain ⟨a', ea, vs, hv, rv⟩ := rs.at_ n _ e
    rw [hn] at ea
    cases ea
    exact ⟨_, vs, rfl, hn, hv, rv⟩
theorem d_append : MtD X cl "list.append" dAppend := by
  intro W ι H σ Q s dx ds x xs rs rx rds h
  unfold dAppend at h
  split at h
  · split at h
    · rename_i ys e
      split at h
      · rename_i hl
        obtain ⟨a, vs, rfl, hn, hv, rv⟩ := lst_at rs rx e
        obtain ⟨v, rfl, r⟩ := rds.one
        have hm := List.mem_of_getElem? hn
        have xw : Ext ι H ι (upd H a (.lst (vs ++ [v]))) := Ext.write hm
        exact ⟨_, mt_append, a, vs, v, rfl, rfl, hv, by rw [← rv.length]; exact hl, h ι _ _ xw (rs.write hn ⟨_, upd_same, (rv.append (.cons r .nil)).ext xw⟩) .non⟩
      · exact False.elim h
    · exact False.elim h
  · exact False.elim h
theorem d_pop : MtD X cl "list.pop" dPop := by
  intro W ι H σ Q s dx ds x xs rs rx rds h
  unfold dPop at h
  split at h
  · split at h
    · rename_i ys e
      split at h
      · rename_i d ed
        obtain ⟨a, vs, rfl, hn, hv, rv⟩ := lst_at rs rx e
        cases rds
        have hm := List.mem_of_getElem? hn
        have xw : Ext ι H ι (upd H a (.lst vs.dropLast)) := Ext.write hm
        obtain ⟨v, ev, r⟩ := rv.get ed
        exact ⟨_, mt_pop, a, vs, v, rfl, rfl, hv, by rw [← rv.length]; exact ev, h ι _ _ xw (rs.write hn ⟨_, upd_same, rv.dropLast.ext xw⟩) (r.ext xw)⟩
      · exact False.elim h
    · exact False.elim h
  · exact False.elim h
theorem d_reverse : MtD X cl "list.reverse" dReverse := by
  intro W ι H σ Q s dx ds x xs rs rx rds h
  unfold dReverse at h
  split at h
  · split at h
    · rename_i ys e
      obtain ⟨a, vs, rfl, hn, hv, rv⟩ := lst_at rs rx e
      cases rds
      have hm := List.mem_of_getElem? hn
      have xw : Ext ι H ι (upd H a (.lst vs.reverse)) := Ext.write hm
      exact ⟨_, mt_reverse, a, vs, rfl, rfl, hv, h ι _ _ xw (rs.write hn ⟨_, upd_same, rv.reverse.ext xw⟩) .non⟩
    · exact False.elim h
  · exact False.elim h
theorem strs_rel {K : PySem.W.Frag} {w : World} {ι : List Addr} {H : Hp} : ∀ ys : List Str, RelDs K w cl ι H (ys.map .str) (ys.map V.str)
  | [] => .nil
  | y :: ys => .cons (.str y) (strs_rel ys)
theorem d_split : MtD X cl "str.split" dSplit := by
  intro W ι H σ Q s dx ds x xs rs rx rds h
  unfold dSplit at h
  split at h
  · cases rx
    obtain ⟨v, rfl, r⟩ := rds.one
    cases r
    split at h
    · rename_i a b hl
      refine ⟨_, mt_split, _, _, rfl, rfl, by simpa using hl.1, hl.2, fun p hp => ?_⟩
      obtain ⟨x, y, z⟩ := new_lst rs (strs_rel (Txt.split a b)) hp
      exact h _ _ _ x y z
    · exact False.elim h
  · exact False.elim h
theorem hasTy_ok {K : PySem.W.Frag} {w : World} {ι : List Addr} {H : Hp} {s : S} {d : D} {v : V} {T : String} (rs : RelS K w cl ι s H) (r : RelD K w cl ι H d v) (h : hasTy T s d = true) : tyV K T v H := by
  unfold hasTy at h
  split at h
  · cases r; rfl
  · cases e : lview s d with
    | none => rw [e] at h; cases h
    | some xs =>
      obtain ⟨a, vs, rfl, hl, _⟩ := lview_at rs r e
      exact .inl ⟨rfl, vs, hl.sq⟩
  · cases h
variable {o e : Expr} {es : List Expr} {mo : ME} {ms : MA} {name : Str} {apos cpos : Pos} {T id : String} {g : D → List D → S → R D}
theorem se_mt0 (pa : PlainAttrs T) (slot : Slot T name id) (hty : typeOf (.builtin id) = pure (.type "method_descriptor")) (hm : MtD X cl id g) (ho : SE X cl W o mo)
    (hbase : attributeBase o name X.env (eval o X.env) = eval o X.env := by rfl) (hline : (apos.endLine == cpos.line) = true := by rfl) : SE X cl W (.Call (.Attribute o name apos) [] [] cpos) (mMt T g mo aNil) := by
  obtain ⟨t, p1, q1⟩ := ho.ex
  refine ⟨_, pe_bm0 pa slot hty anyMt p1 hbase hline, fun σ H Q ρ ι s en r h => ?_⟩
  refine q1 σ H _ ρ ι s en r (PoE.step h fun d s1 ι1 H1 v e1 x1 r1 d1 h1 => ?_)
  split at h1
  · rename_i ht
    exact ⟨hasTy_ok r1 d1 ht, hm W ι1 H1 σ Q s1 d [] v [] r1 d1 .nil h1⟩
  · exact False.elim h1
theorem se_mt (pa : PlainAttrs T) (slot : Slot T name id) (hty : typeOf (.builtin id) = pure (.type "method_descriptor")) (hm : MtD X cl id g) (ho : SE X cl W o mo) (ha : SA X cl W (e :: es) ms)
    (hbase : attributeBase o name X.env (eval o X.env) = eval o X.env := by rfl)
    (hfew : ((backTo cpos (starEach (e :: es) X.env)).all (fun x => !x.1) && (backToKw cpos (keywordEach [] X.env)).all (fun x => x.1.isSome) && decide ((e :: es).length + ([] : List Keyword).length + (if ([] : List Keyword).isEmpty then 0 else 1) < 30)) = true := by rfl)
    (hline : (apos.endLine == cpos.line) = true := by rfl) (hs : starEach (e :: es) X.env = (false, eval e X.env) :: starEach es X.env := by rfl) (hplain : (backTo cpos (starEach es X.env)).any (·.1) = false := by rfl) :
    SE X cl W (.Call (.Attribute o name apos) (e :: es) [] cpos) (mMt T g mo ms) := by
  obtain ⟨t, p1, q1⟩ := ho.ex
  obtain ⟨u, p2, q2⟩ := ha.ex
  refine ⟨_, pe_bm pa slot hty anyMt p1 p2 hbase hfew hline hs hplain, fun σ H Q ρ ι s en r h => ?_⟩
  refine q1 σ H _ ρ ι s en r (PoE.step h fun d s1 ι1 H1 v e1 x1 r1 d1 h1 => ?_)
  split at h1
  · rename_i ht
    refine ⟨hasTy_ok r1 d1 ht, q2 σ H1 _ ρ ι1 s1 (en.ext x1) r1 (PoE.stepA h1 fun ds s2 ι2 H2 vs e2 x2 r2 d2 h2 => ?_)⟩
    exact hm W ι2 H2 σ Q s2 d ds v vs r2 (d1.ext x2) d2 h2
  · exact False.elim h1
end
end Pm
namespace Pm
open PySem PySem.Spec PyProof.Rows L2

/-! ### zip of two things, each a text, a list or a tuple -/
/-- what a zip walks -/
inductive Src where
  | str (x : Str) | lst (a : Addr) | tup (a : Addr)
def Src.val : Src → V
  | .str x => .str x
  | .lst a => .ref a
  | .tup a => .ref a
def Src.ads : Src → List Addr
  | .str _ => []
  | .lst a => [a]
  | .tup a => [a]
def Vw (K : PySem.W.Frag) (H : Hp) : Src → List V → Prop
  | .str x, vs => vs = x.cps.toList.map fun c => V.str ⟨#[c]⟩
  | .lst a, vs => SqL K H a vs
  | .tup a, vs => SqT K H a vs
def StI : Src → Addr → Tok → Nat → Heap → Prop
  | .str x, it, t, i, h => h.IsStrIter it (strIterType x) x t i
  | .lst a, it, _, i, h => h.IsListIter it a i
  | .tup a, it, _, i, h => h.IsTupleIter it a i
section
variable {X : Cx} {pins : List (Addr × Obj)} {σ : L2.St} {H : Hp} {s : Shared}
theorem StI.keep {q : Src} {it : Addr} {t : Tok} {i : Nat} {h h' : Heap} (st : StI q it t i h) (k : ∀ o, h.get? it = some o → h'.get? it = some o) : StI q it t i h' := by
  cases q with
  | str x => obtain ⟨o, e, r⟩ := st; exact ⟨o, k o e, r⟩
  | lst a => exact Heap.IsListIter.at st fun o e => k o e
  | tup a => exact Heap.IsTupleIter.at st fun o e => k o e
theorem StI.obj {q : Src} {it : Addr} {t : Tok} {i : Nat} {h : Heap} (st : StI q it t i h) : ∃ o, h.get? it = some o ∧ ∀ v, o.data ≠ .cell v := by
  cases q <;> (obtain ⟨o, e, _, d⟩ := st; exact ⟨o, e, fun v z => by rw [d] at z; cases z⟩)
/-- what such an iterator draws, its source as it stands now -/
theorem drawn {q : Src} {it : Addr} {t : Tok} {i : Nat} {vs : List V} (I : Inv X pins σ H s) (hc : X.calm = true) (hv : Vw X.K H q vs) (hne : it ∉ q.ads) (st : StI q it t i s.heap) :
    ∃ (P : Nat → Value → Prop) (St : Nat → Heap → Prop), Draws X.prog X.w X.A.in1 it (it :: q.ads) vs.length P St ∧ St i s.heap ∧ (∀ j u, P j u → ∃ x, vs[j]? = some x ∧ RelV x u) ∧ ∀ j h, St j h → StI q it t j h := by
  have hh : X.A.in1.handled = none := I.ok.hd hc
  cases q with
  | str x =>
    have D := Draws.text (prog := X.prog) (w := X.w) hh it x t
    have hl : x.cps.size = vs.length := by rw [show vs = _ from hv]; simp
    rw [hl] at D
    refine ⟨_, _, D, st, fun j u ⟨c, k, e, z⟩ => ⟨.str ⟨#[c]⟩, ?_, k, z⟩, fun j h z => z⟩
    rw [show vs = _ from hv, List.getElem?_map, Array.getElem?_toList, e]
    rfl
  | lst a =>
    obtain ⟨its, r, p, _⟩ := I.list hv
    have D := Draws.list (prog := X.prog) (w := X.w) hh it a (fun z => hne (by simp [Src.ads, z])) its.toArray
    have hl : its.toArray.size = vs.length := by rw [List.size_toArray]; exact r.length.symm
    rw [hl] at D
    refine ⟨_, _, D, ⟨st, p.isList⟩, fun j u e => ?_, fun j h z => z.1⟩
    have e' : its[j]? = some u := by simpa using e
    cases hx : vs[j]? with
    | none =>
      have h1 := List.getElem?_eq_none_iff.mp hx
      have h2 := (List.getElem?_eq_some_iff.mp e').1
      have h3 := r.length
      omega
    | some x =>
      obtain ⟨u2, e2, rx⟩ := r.get hx
      rw [e'] at e2
      cases e2
      exact ⟨x, rfl, rx⟩
  | tup a =>
    obtain ⟨its, r, p, _⟩ := I.tuple hv
    have D := Draws.tuple (prog := X.prog) (w := X.w) hh it a (fun z => hne (by simp [Src.ads, z])) its.toArray
    have hl : its.toArray.size = vs.length := by rw [List.size_toArray]; exact r.length.symm
    rw [hl] at D
    refine ⟨_, _, D, ⟨st, p⟩, fun j u e => ?_, fun j h z => z.1⟩
    have e' : its[j]? = some u := by simpa using e
    cases hx : vs[j]? with
    | none =>
      have h1 := List.getElem?_eq_none_iff.mp hx
      have h2 := (List.getElem?_eq_some_iff.mp e').1
      have h3 := r.length
      omega
    | some x =>
      obtain ⟨u2, e2, rx⟩ := r.get hx
      rw [e'] at e2
      cases e2
      exact ⟨x, rfl, rx⟩
theorem Vw.inj {q : Src} {xs ys : List V} (I : Inv X pins σ H s) (h : Vw X.K H q xs) (h' : Vw X.K H q ys) : xs = ys := by
  cases q with
  | str x => rw [show xs = _ from h, show ys = _ from h']
  | lst a => exact I.list_inj h h'
  | tup a => exact I.tuple_inj h h'
/-- how such an iterator begins -/
theorem begun {q : Src} {vs : List V} {u : Value} (I : Inv X pins σ H s) (hv : Vw X.K H q vs) (ru : RelV q.val u) :
    ∃ (o : Obj) (G : Heap → Prop) (t : Tok), Begins u o G ∧ G s.heap ∧ (∀ b ∈ q.ads, b < s.heap.objs.size) ∧ ∀ it h, h.get? it = some o → StI q it t 0 h := by
  cases q with
  | str x =>
    obtain ⟨t, rfl⟩ := ru
    exact ⟨_, _, t, begins_text x t, trivial, fun b hb => (nomatch hb), fun it h e => ⟨_, e, rfl, rfl⟩⟩
  | lst a =>
    obtain ⟨its, r, p, _⟩ := I.list hv
    cases ru
    exact ⟨_, _, 0, begins_list a its.toArray, p.isList, fun b hb => by rw [List.mem_singleton.mp hb]; exact p.lt, fun it h e => ⟨_, e, rfl, rfl⟩⟩
  | tup a =>
    obtain ⟨its, r, p, _⟩ := I.tuple hv
    cases ru
    refine ⟨_, _, 0, begins_tuple a its.toArray, p, fun b hb => ?_, fun it h e => ⟨_, e, rfl, rfl⟩⟩
    obtain ⟨o, e, _⟩ := p
    rw [List.mem_singleton.mp hb]
    exact Heap.lt_size e
end
/-- the sources as they stand at each turn, the items in new pairs -/
def Itp (K : PySem.W.Frag) (p q : Src) : It :=
  ⟨fun i H => ∃ (xs ys : List V), Vw K H p xs ∧ Vw K H q ys ∧ i < xs.length ∧ i < ys.length,
    fun i H v H' => ∃ T x y, v = .ref T ∧ H T = none ∧ H' = upd H T (.tup [x, y]) ∧ (∀ xs, Vw K H p xs → xs[i]? = some x) ∧ ∀ ys, Vw K H q ys → ys[i]? = some y,
    fun i H => ∃ xs ys : List V, Vw K H p xs ∧ Vw K H q ys ∧ i = min xs.length ys.length⟩
theorem turn_zipG {P : Program} {w : World} {K : PySem.W.Frag} {elts : List Expr} {kk : Nat} {tpos : Pos} {p q : Src} {N : Nat} {t1 t2 : Tok} (hp : ∀ b ∈ p.ads, b < N) (hq : ∀ b ∈ q.ads, b < N) :
    Turn P w K (.Tuple elts kk tpos) (Itp K p q) [N + 4, N + 2, N + 3, N, N + 1] (N + 4)
      (fun i h => IsZip h (N + 4) (N + 2) (N + 3) .none ∧ IsTupOf2 h (N + 2) (.ref N) (.ref (N + 1)) ∧ (∃ x y, IsTupOf2 h (N + 3) x y) ∧ StI p N t1 i h ∧ StI q (N + 1) t2 i h) where
  mem := by simp
  obj := fun i h st c hc => by
    obtain ⟨hz, hTI, ⟨x, y, hTO⟩, s1, s2⟩ := st
    have e' : c = N + 4 ∨ c = N + 2 ∨ c = N + 3 ∨ c = N ∨ c = N + 1 := by simpa using hc
    rcases e' with e | e | e | e | e
    · rw [e]; exact ⟨_, hz, fun v z => nomatch z⟩
    · rw [e]; exact ⟨_, hTI, fun v z => nomatch z⟩
    · rw [e]; exact ⟨_, hTO, fun v z => nomatch z⟩
    · rw [e]; exact s1.obj
    · rw [e]; exact s2.obj
  keep := fun i h h' ⟨hz, hTI, ⟨x, y, hTO⟩, s1, s2⟩ k =>
    ⟨k (N + 4) (by simp) _ hz, k (N + 2) (by simp) _ hTI, ⟨x, y, k (N + 3) (by simp) _ hTO⟩, s1.keep (k N (by simp)), s2.keep (k (N + 1) (by simp))⟩
  item := by
    intro X hP hw hK hc i pins s σ H E I hf ⟨hz, hTI, hTO, s1, s2⟩ ⟨xs, ys, hx, hy, l1, l2⟩
    subst hP hw hK
    have n1 : N ∉ p.ads := fun z => Nat.lt_irrefl _ (hp _ z)
    have n2 : N + 1 ∉ q.ads := fun z => absurd (show N + 1 < N from hq _ z) (by omega)
    obtain ⟨P1, St1, D1, g1, r1, b1⟩ := drawn I hc hx n1 s1
    obtain ⟨P2, St2, D2, g2, r2, b2⟩ := drawn I hc hy n2 s2
    have hlt : ∀ c ∈ [N + 4, N + 2, N + 3, N, N + 1], c < s.heap.objs.size := fun c hcm => by
      have e' : c = N + 4 ∨ c = N + 2 ∨ c = N + 3 ∨ c = N ∨ c = N + 1 := by simpa using hcm
      have h4 : N + 4 < s.heap.objs.size := Heap.lt_size hz
      rcases e' with e | e | e | e | e <;> (rw [e]; omega)
    refine (GoesN.zip2 (zip_sep2 hp hq) D1 D2).goes i s _ _ (Nat.lt_min.mpr ⟨l1, l2⟩) ⟨hz, hTI, hTO, g1, g2⟩ fun v h' tk ⟨T, x, y, ev, hT, hx1, hy1, hTup⟩ ⟨z', TI', TO', g1', g2'⟩ hk _ => ?_
    subst ev
    obtain ⟨vx, ex, rx⟩ := r1 _ _ hx1
    obtain ⟨vy, ey, ry⟩ := r2 _ _ hy1
    have new : ObjOk X.prog X.w (upd H T (.tup [vx, vy])) h' T (.tup [vx, vy]) := ⟨by show 2 ≤ sizeLine; decide, [x, y], .cons rx (.cons ry .nil), hTup⟩
    have I1 : Inv X pins σ (upd H T (.tup [vx, vy])) { s with heap := h', toks := tk } :=
      I.turnedNew (ch := [N + 4, N + 2, N + 3, N, N + 1]) (fun c o hb e => hk c o (fun z => hb (by
        have e' : c = N + 4 ∨ c = N + 3 ∨ c = N ∨ c = N + 1 := by simpa using z
        rcases e' with e | e | e | e <;> simp [e])) e) hf hT new
    refine ⟨.ref T, _, I1, rfl, ⟨T, vx, vy, rfl, I.hok.fresh hT, rfl, fun l hl => by rw [hl.inj I hx]; exact ex, fun l hl => by rw [hl.inj I hy]; exact ey⟩, ⟨z', TI', TO', b1 _ _ g1', b2 _ _ g2'⟩, fun c hcm => ?_⟩
    rw [upd_ne (Nat.ne_of_lt (Nat.lt_of_lt_of_le (hlt c hcm) hT))]
    exact (hf c hcm).1
  done := by
    intro X hP hw hK hc i pins s σ H E I hf ⟨hz, hTI, hTO, s1, s2⟩ ⟨xs, ys, hx, hy, hi⟩
    subst hP hw hK
    have n1 : N ∉ p.ads := fun z => Nat.lt_irrefl _ (hp _ z)
    have n2 : N + 1 ∉ q.ads := fun z => absurd (show N + 1 < N from hq _ z) (by omega)
    obtain ⟨P1, St1, D1, g1, r1, b1⟩ := drawn I hc hx n1 s1
    obtain ⟨P2, St2, D2, g2, r2, b2⟩ := drawn I hc hy n2 s2
    refine (GoesN.zip2 (elts := elts) (x1 := kk) (pos := tpos) (zip_sep2 hp hq) D1 D2).stops s (fun s1 => Inv X pins σ H s1) _ (by rw [← hi]; exact ⟨hz, hTI, hTO, g1, g2⟩) fun h' tk hk _ => ?_
    exact I.turnedL (ch := [N + 4, N + 2, N + 3, N, N + 1]) (fun c o hb e => hk c o (fun z => hb (by
        have e' : c = N + 4 ∨ c = N + 3 ∨ c = N ∨ c = N + 1 := by simpa using z
        rcases e' with e | e | e | e <;> simp [e])) e) hf
  self := fun A i s Q E st h => wpAny_pyIter_zip st.1 h
def tiZip (K : PySem.W.Frag) (ta : TA) : TI := fun σ H R => ta σ H fun vs H1 => ∃ p q xs ys, vs = [p.val, q.val] ∧ Vw K H1 p xs ∧ Vw K H1 q ys ∧ R (Itp K p q) H1
theorem pi_zipG {X : Cx} {e e2 : Expr} {ta : TA} {p pos tpos : Pos} {elts : List Expr} {kk : Nat} (hg : Gl X "zip") (hm : X.mg "zip" = none) (ha : PA X [e, e2] ta)
    (hs : starEach [e, e2] X.env = (false, eval e X.env) :: starEach [e2] X.env := by rfl) (hpl : (backTo pos (starEach [e2] X.env)).any (·.1) = false := by rfl) :
    PI X (.Tuple elts kk tpos) (.Call (.Name "zip" p) [e, e2] [] pos) (tiZip X.K ta) := by
  refine ⟨fun pins s σ H R I h => ?_⟩
  refine Call_ (ld_blt I hg hm boot_zip (callWith_type1 (thn (ha.run pos pins s σ H _ I h) fun us s1 ⟨vs, H1, I1, r1, p1, p2, xs, ys, ev, hx, hy, q⟩ => ?_) hs hpl))
  subst ev
  cases r1 with
  | @cons _ u1 _ _ ru1 rr => cases rr with
    | @cons _ u2 _ _ ru2 rr => cases rr with
      | nil =>
        obtain ⟨o1, G1, t1, B1, g1, a1, st1⟩ := begun I1 hx ru1
        obtain ⟨o2, G2, t2, B2, g2, a2, st2⟩ := begun I1 hy ru2
        refine zip_begins2 B1 B2 g1 g2 fun h' hz hTI hTO e1 e2 hsz hk => wpAny_pyIter_zip hz ?_
        have I2 : Inv X pins σ H1 { s1 with heap := h' } := I1.kept (t' := s1.toks) hk
        refine ⟨s1.heap.objs.size + 4, [s1.heap.objs.size + 4, s1.heap.objs.size + 2, s1.heap.objs.size + 3, s1.heap.objs.size, s1.heap.objs.size + 1], _, _, H1, rfl, I2, turn_zipG a1 a2, ⟨hz, hTI, ⟨_, _, hTO⟩, st1 _ _ e1, st2 _ _ e2⟩, fun c hcm => ?_, q⟩
        have e' : c = s1.heap.objs.size + 4 ∨ c = s1.heap.objs.size + 2 ∨ c = s1.heap.objs.size + 3 ∨ c = s1.heap.objs.size ∨ c = s1.heap.objs.size + 1 := by simpa using hcm
        have hle : s1.heap.objs.size ≤ c := by
          rcases e' with e | e | e | e | e <;> (rw [e]; omega)
        exact I1.fpOk hle (I1.hok.fresh hle)

/-! over data -/
/-- finished sequences and texts -/
def fview : D → Option (List D)
  | .str x => some (x.cps.toList.map fun c => .str ⟨#[c]⟩)
  | .tup xs => some xs
  | .lst xs => some xs
  | _ => none
def zipD : List D → List D → List D
  | x :: xs, y :: ys => .tup [x, y] :: zipD xs ys
  | _, _ => []
def iZipD (ma mb : ME) : MI := fun ρ s => (ma ρ s).bind fun d s1 => (mb ρ s1).bind fun e s2 => match fview d, fview e with
  | some xs, some ys => .ok (zipD xs ys, none) s2
  | _, _ => .bad
theorem zipD_length : ∀ xs ys : List D, (zipD xs ys).length = min xs.length ys.length
  | [], _ => by simp [zipD]
  | _ :: _, [] => by simp [zipD]
  | x :: xs, y :: ys => by simp [zipD, zipD_length xs ys]
theorem zipD_get : ∀ {xs ys : List D} {i : Nat} {x y : D}, xs[i]? = some x → ys[i]? = some y → (zipD xs ys)[i]? = some (.tup [x, y])
  | [], _, _, _, _, h, _ => by simp at h
  | _ :: _, [], _, _, _, _, h => by simp at h
  | a :: xs, b :: ys, 0, x, y, h, g => by simp at h g; simp [zipD, h, g]
  | a :: xs, b :: ys, i + 1, x, y, h, g => by simpa [zipD] using zipD_get (by simpa using h) (by simpa using g)
section
variable {K : PySem.W.Frag} {w : World} {cl : Str → Option Addr} {ι : List Addr} {H : Hp}
theorem chars_rel : ∀ cs : List Nat, RelDs K w cl ι H (cs.map fun c => D.str ⟨#[c]⟩) (cs.map fun c => V.str ⟨#[c]⟩)
  | [] => .nil
  | c :: cs => .cons (.str _) (chars_rel cs)
/-- the source of a finished thing: as it stands now and later -/
theorem fview_src {d : D} {v : V} {xs : List D} (r : RelD K w cl ι H d v) (h : fview d = some xs) : ∃ q : Src, v = q.val ∧ ∃ vs, (∀ z ι2 H2, Ext ι H ι2 (hd z H2) → Vw K H2 q vs ∧ RelDs K w cl ι2 (hd z H2) xs vs) := by
  cases r <;> simp only [fview] at h <;> first
    | (cases h; done)
    | skip
  · rename_i x
    cases h
    exact ⟨.str x, rfl, _, fun z ι2 H2 _ => ⟨rfl, chars_rel _⟩⟩
  · rename_i a vs h1 r1
    cases h
    exact ⟨.tup a, rfl, _, fun z ι2 H2 x => ⟨(h1.ext x).act, r1.ext x⟩⟩
  · rename_i a vs h1 r1
    cases h
    exact ⟨.lst a, rfl, _, fun z ι2 H2 x => ⟨(h1.ext x).act, r1.ext x⟩⟩
theorem hd_upd2 {z : Option Addr} {T : Addr} {o : HO} (hT : H T = none) (hz : ∀ a, z = some a → H a ≠ none) : hd z (upd H T o) = upd (hd z H) T o := by
  cases z with
  | none => rfl
  | some a =>
    have hne : T ≠ a := fun e => hz a rfl (by rw [← e]; exact hT)
    funext b
    by_cases hb : b = a
    · rw [hb, hd_self, upd_ne (Ne.symm hne), hd_self]
    · rw [hd_ne hb]
      by_cases hbT : b = T
      · rw [hbT, upd_same, upd_same]
      · rw [upd_ne hbT, upd_ne hbT, hd_ne hb]
theorem hd_none' {z : Option Addr} {T : Addr} (hT : H T = none) : hd z H T = none := by
  cases z with
  | none => exact hT
  | some a =>
    by_cases hb : T = a
    · rw [hb, hd_self]
    · rw [hd_ne hb]; exact hT
theorem zip_ok {xs ys : List D} {p q : Src} {ι1 : List Addr} {H1 : Hp} {vs us : List V} (h1 : ∀ z ι2 H2, Ext ι1 H1 ι2 (hd z H2) → Vw K H2 p vs ∧ RelDs K w cl ι2 (hd z H2) xs vs) (h2 : ∀ z ι2 H2, Ext ι1 H1 ι2 (hd z H2) → Vw K H2 q us ∧ RelDs K w cl ι2 (hd z H2) ys us) :
    ItOk K w cl (zipD xs ys, none) (Itp K p q) ι1 H1 := by
  intro z i ι2 H2 s2 hz x2 r2 _
  obtain ⟨a1, b1⟩ := h1 z ι2 H2 x2
  obtain ⟨a2, b2⟩ := h2 z ι2 H2 x2
  refine ⟨fun hi => ?_, fun hi => ⟨vs, us, a1, a2, by rw [← b1.length, ← b2.length, ← zipD_length]; exact hi⟩⟩
  have hi' : i < min xs.length ys.length := by rw [← zipD_length]; exact hi
  obtain ⟨l1, l2⟩ := Nat.lt_min.mp hi'
  refine ⟨⟨vs, us, a1, a2, by rw [← b1.length]; exact l1, by rw [← b2.length]; exact l2⟩, fun x H' ⟨T, vx, vy, ev, hT, eH, f1, f2⟩ => ?_⟩
  subst ev eH
  obtain ⟨v1, e1, q1⟩ := b1.get (List.getElem?_eq_getElem l1)
  obtain ⟨v2, e2, q2⟩ := b2.get (List.getElem?_eq_getElem l2)
  have g1 := f1 vs a1
  have g2 := f2 us a2
  rw [e1] at g1
  rw [e2] at g2
  cases g1
  cases g2
  obtain ⟨n1, n2, n3⟩ := new_tup r2 (.cons q1 (.cons q2 .nil)) (hd_none' (z := z) hT)
  rw [hd_upd2 hT hz]
  exact ⟨fun a ea => upd_ne fun e => hz a ea (by rw [e]; exact hT), _, zipD_get (List.getElem?_eq_getElem l1) (List.getElem?_eq_getElem l2), n1, n2, n3⟩
end
section
variable {X : Cx} {cl : Str → Option Addr} {W : Wish} {pos p tpos : Pos} {e e2 : Expr} {m mb : ME} {elts : List Expr} {kk : Nat}
theorem si_zip (hg : Gl X "zip") (hm : X.mg "zip" = none) (he : SE X cl W e m) (hb : SE X cl W e2 mb) (hs : starEach [e, e2] X.env = (false, eval e X.env) :: starEach [e2] X.env := by rfl) (hs2 : starEach [e2] X.env = (false, eval e2 X.env) :: starEach [] X.env := by rfl)
    (hpl : (backTo pos (starEach [e2] X.env)).any (·.1) = false := by rfl) : SI X cl W (.Tuple elts kk tpos) (.Call (.Name "zip" p) [e, e2] [] pos) (iZipD m mb) := by
  obtain ⟨t, p1, q1⟩ := he.ex
  obtain ⟨u, p2, q2⟩ := hb.ex
  refine ⟨_, pi_zipG hg hm (pa_cons p1 (pa_cons p2 pa_nil hs2) hs) hs hpl, fun σ H Q ρ ι s en r h => ?_⟩
  unfold iZipD at h
  refine q1 σ H _ ρ ι s en r ?_
  cases e1 : m ρ s with
  | bad => rw [e1] at h; exact h
  | exc x s1 => rw [e1] at h; exact h
  | ok d s1 =>
  rw [e1] at h
  intro ι1 H1 v x1 r1 rd
  simp only [R.bind] at h
  refine q2 σ H1 _ ρ ι1 s1 (en.ext x1) r1 ?_
  cases e3 : mb ρ s1 with
  | bad => rw [e3] at h; exact h
  | exc x s2 => rw [e3] at h; exact fun ι2 H2 c dd x2 => h ι2 H2 c dd (x1.trans x2)
  | ok d2 s2 =>
  rw [e3] at h
  intro ι2 H2 v2 x2 r2 rd2
  simp only at h
  cases f1 : fview d with
  | none => rw [f1] at h; exact False.elim h
  | some xs =>
  cases f2 : fview d2 with
  | none => rw [f1, f2] at h; exact False.elim h
  | some ys =>
  rw [f1, f2] at h
  obtain ⟨s1', ev1, vs, g1⟩ := fview_src (rd.ext x2) f1
  obtain ⟨s2', ev2, us, g2⟩ := fview_src rd2 f2
  subst ev1 ev2
  exact ⟨s1', s2', vs, us, rfl, (g1 none ι2 H2 (Ext.refl _ _)).1, (g2 none ι2 H2 (Ext.refl _ _)).1, h ι2 H2 _ (x1.trans x2) r2 (zip_ok g1 g2)⟩
end
end Pm
namespace Pm
open PySem PySem.Spec PyProof.Rows L2

/-! ### written dicts -/
/-- the entries as the top lays them -/
def mkEs (w : World) (us : List (Str × Tok × Value)) : Array DictEntry := (us.map fun p => ({ hash := PyData.keyHash w.params p.1, key := .str p.1 p.2.1, val := p.2.2 } : DictEntry)).toArray
section
variable {K : PySem.W.Frag} {w : World} {a : Addr}
theorem mkEs_lit : ∀ us : List (Str × Tok × Value), PySem.W.KeysLit w.params (us.map fun p => ({ hash := PyData.keyHash w.params p.1, key := .str p.1 p.2.1, val := p.2.2 } : DictEntry))
  | [] => trivial
  | p :: us => ⟨⟨p.1, p.2.1, rfl, rfl⟩, mkEs_lit us⟩
theorem mkEs_find (z : Str) : ∀ us : List (Str × Tok × Value), ((us.map fun p => ({ hash := PyData.keyHash w.params p.1, key := .str p.1 p.2.1, val := p.2.2 } : DictEntry)).find? (·.key.isStr z)).map (·.val) = (us.map fun p => (p.1, p.2.2)).lookup z
  | [] => rfl
  | p :: us => by
    have ih := mkEs_find z us
    rw [List.map_cons, List.map_cons, List.find?_cons, List.lookup_cons]
    have e : Value.isStr (Value.str p.1 p.2.1) z = (z == p.1) := by
      show (p.1 == z) = (z == p.1)
      rw [Bool.eq_iff_iff]
      constructor <;> intro h <;> exact beq_iff_eq.mpr (beq_iff_eq.mp h).symm
    simp only [e]
    cases z == p.1 with
    | true => rfl
    | false => exact ih
theorem mkEs_noref : ∀ us : List (Str × Tok × Value), (us.map fun p => ({ hash := PyData.keyHash w.params p.1, key := .str p.1 p.2.1, val := p.2.2 } : DictEntry)).any (·.refKey) = false
  | [] => rfl
  | p :: us => by rw [List.map_cons, List.any_cons, mkEs_noref us]; rfl
theorem kdx_of {us : List (Str × Tok × Value)} {vs : List (Str × V)} {n : Nat} (h : K.lookup a = some ⟨.type "dict", none, .dict (mkEs w us) n, #[]⟩) (low : (a == sysModules) = false)
    (r : Paired (fun (p : Str × V) (q : Str × Value) => p.1 = q.1 ∧ RelV p.2 q.2) vs (us.map fun p => (p.1, p.2.2))) : KDx K w a vs := by
  refine ⟨_, n, _, h, by unfold mkEs; exact mkEs_lit us, low, fun z => ?_, r⟩
  have e1 := mkEs_find (w := w) z us
  have e2 := mkEs_noref (w := w) us
  unfold PySem.W.nsIn
  rw [h]
  dsimp only
  unfold mkEs
  rw [e2]
  cases hf : (us.map fun p => ({ hash := PyData.keyHash w.params p.1, key := .str p.1 p.2.1, val := p.2.2 } : DictEntry)).find? (·.key.isStr z) with
  | none => rw [hf] at e1; rw [← e1]; simp
  | some e => rw [hf] at e1; rw [← e1]; rfl
/-- a tuple, a list of the written part -/
theorem st_K {ι : List Addr} {H : Hp} {o : Obj} {its : Array Value} {n : Nat} {xs : List V} (h : K.lookup a = some o) (hc : o.cls = .type "tuple") (hd : o.data = .seq its n) (hz : its.size ≤ sizeLine) (r : Vals xs its.toList) : ST K ι H a xs := .inr ⟨o, its, n, h, hc, hd, hz, r⟩
theorem sl_K {ι : List Addr} {H : Hp} {o : Obj} {its : Array Value} {n : Nat} {xs : List V} (h : K.lookup a = some o) (hc : o.cls = .type "list") (hn : o.dict = none) (hd : o.data = .seq its n) (hz : its.size ≤ sizeLine) (r : Vals xs its.toList) : SL K ι H a xs := .inr ⟨o, its, n, h, hc, hn, hd, hz, r⟩
end
/-- d.get(k) -/
def mGet (mo mk : ME) : ME := fun ρ s => (mo ρ s).bind fun x s1 => match x with
  | .dic kvs => (mk ρ s1).bind fun y s2 => (match y with
    | .str z => (match kvs.lookup z with
      | some d => .ok d s2
      | none => .ok .non s2)
    | _ => .bad)
  | _ => .bad
section
variable {X : Cx} {cl : Str → Option Addr} {W : Wish} {o e : Expr} {mo mk : ME} {apos cpos : Pos}
def tGet (K : PySem.W.Frag) (w : World) (to te : TE) : TE := fun σ H Q => to σ H fun x H1 => ∃ (p : Addr) (es : Array DictEntry) (n : Nat), x = .ref p ∧ KDict K w p es n ∧ te σ H1 fun y H2 => ∃ (z : Str) (r : Option Value) (v : V), y = .str z ∧ PySem.W.nsIn K p z = some r ∧ RelV v (r.getD .none) ∧ Q v H2
theorem pe_get {to te : TE} (ho : PE X o to) (he : PE X e te)
    (hbase : attributeBase o "get" X.env (eval o X.env) = eval o X.env := by rfl)
    (hfew : ((backTo cpos (starEach (e :: []) X.env)).all (fun x => !x.1) && (backToKw cpos (keywordEach [] X.env)).all (fun x => x.1.isSome) && decide ((e :: []).length + ([] : List Keyword).length + (if ([] : List Keyword).isEmpty then 0 else 1) < 30)) = true := by rfl)
    (hline : (apos.endLine == cpos.line) = true := by rfl) (hs : starEach (e :: []) X.env = (false, eval e X.env) :: starEach [] X.env := by rfl) (hplain : (backTo cpos (starEach [] X.env)).any (·.1) = false := by rfl) :
    PE X (.Call (.Attribute o "get" apos) [e] [] cpos) (tGet X.K X.w to te) := by
  refine ⟨fun pins s σ H Q I h => ?_⟩
  refine wpAny_Call_method_late hbase hfew hline rfl (thn (ho.run pins s σ H _ I h) fun v s1 ⟨x, H1, I1, r1, p, es, n, ex, D, q1⟩ => ?_)
  subst ex
  obtain rfl : v = Value.ref p := r1
  have hm1 := PySem.W.mapOf_K (prog := X.prog) (w := X.w) I1.kIn D.at_ D.lit
  refine ⟨"dict", "dict.get", PySem.F.plainAttrs_dict, PySem.F.slot_dict_get, PySem.F.type_dict_get, hm1.typeIs, hm1.noDict, ?_⟩
  have hA := (pa_cons he pa_nil hs).run cpos pins s1 σ H1 (fun vs H2 => ∃ y, vs = [y] ∧ ∃ (z : Str) (r : Option Value) (v : V), y = .str z ∧ PySem.W.nsIn X.K p z = some r ∧ RelV v (r.getD .none) ∧ Q v H2) I1 (by
    show te σ H1 _
    refine Eq.mp (congrArg (te σ H1) ?_) q1
    funext y H2
    exact propext ⟨fun k => ⟨y, rfl, k⟩, fun ⟨y', e1, k⟩ => by cases e1; exact k⟩)
  rw [hs] at hA ⊢
  refine Calls.callWith_builtin (by show (false || (backTo cpos (starEach [] X.env)).any (·.1)) = false; rw [hplain] <;> rfl) (Calls.evalArgs_plain ?_)
  refine thn hA fun us s2 ⟨vs, H2, I2, r2, y, ev, z, r, v, ey, en, rv, q2⟩ => ?_
  subst ev ey
  cases r2 with
  | cons ru rr =>
    cases rr
    obtain ⟨t, rfl⟩ := ru
    have hm2 := PySem.W.mapOf_K (prog := X.prog) (w := X.w) I2.kIn D.at_ D.lit
    refine call_meetsIn PySem.F.slot_dict_get hm2.typeIs PySem.F.entry_dict_get (PySem.F.args_dict_get_2 _ _) (meets_dict_get (strKind X.prog X.w) p (strKind_is X.prog X.w z t) D.low) ⟨_, hm2, ?_⟩
    rw [PySem.W.find_K D.at_ en]
    exact ⟨v, H2, I2.tok _, rv, q2⟩
theorem se_get (ho : SE X cl W o mo) (he : SE X cl W e mk)
    (hbase : attributeBase o "get" X.env (eval o X.env) = eval o X.env := by rfl)
    (hfew : ((backTo cpos (starEach (e :: []) X.env)).all (fun x => !x.1) && (backToKw cpos (keywordEach [] X.env)).all (fun x => x.1.isSome) && decide ((e :: []).length + ([] : List Keyword).length + (if ([] : List Keyword).isEmpty then 0 else 1) < 30)) = true := by rfl)
    (hline : (apos.endLine == cpos.line) = true := by rfl) (hs : starEach (e :: []) X.env = (false, eval e X.env) :: starEach [] X.env := by rfl) (hplain : (backTo cpos (starEach [] X.env)).any (·.1) = false := by rfl) :
    SE X cl W (.Call (.Attribute o "get" apos) [e] [] cpos) (mGet mo mk) := by
  obtain ⟨t, p1, q1⟩ := ho.ex
  obtain ⟨u, p2, q2⟩ := he.ex
  refine ⟨_, pe_get p1 p2 hbase hfew hline hs hplain, fun σ H Q ρ ι s en r h => ?_⟩
  refine q1 σ H _ ρ ι s en r (PoE.step h fun d s1 ι1 H1 v e1 x1 r1 d1 h1 => ?_)
  cases d1 with
  | @dic kvs a vs hk rk =>
    obtain ⟨es, n, us, k1, k2, k3, k4, k5⟩ := hk
    refine ⟨a, es, n, rfl, ⟨k1, k2, k3⟩, q2 σ H1 _ ρ ι1 s1 (en.ext x1) r1 (PoE.step h1 fun d2 s2 ι2 H2 v2 e2 x2 r2 dd2 h2 => ?_)⟩
    cases dd2 with
    | str z =>
      simp only at h2
      have kl := kdx_lookup (RelFs.ext x2 rk) z
      have pl := paired_lookup k5 z
      cases e3 : kvs.lookup z with
      | none =>
        rw [e3] at kl h2
        simp only at kl h2
        rw [kl] at pl
        simp only at pl
        exact ⟨z, _, .non, rfl, k4 z, by rw [pl]; rfl, h2 ι2 H2 .non (Ext.refl _ _) r2 .non⟩
      | some d =>
        rw [e3] at kl h2
        simp only at kl h2
        obtain ⟨v3, e4, rd⟩ := kl
        rw [e4] at pl
        obtain ⟨u3, e5, rv⟩ := pl
        exact ⟨z, _, v3, rfl, k4 z, by rw [e5]; exact rv, h2 ι2 H2 v3 (Ext.refl _ _) r2 rd⟩
    | _ => exact False.elim h2
  | _ => exact False.elim h1
end
/-! ### room -/
theorem room_u {A : Around} {k : Nat} (hr : Room k A) : A.units + 64 < cLine := hr.units
theorem room_u1 {A : Around} {k : Nat} (hr : Room k A) : A.units + 65 < cLine := by have := hr.un; omega
theorem mkFn_arity {n tot : Nat} {m : MS} : ∀ ds s, ds.length ≠ n → mkFn n tot m ds s = .bad := fun ds s h => by unfold mkFn; rw [if_neg h]
theorem mkFz_arity {n : Nat} {F : List D → S → R D} (h : ∀ ds s, ds.length ≠ n → F ds s = .bad) : ∀ ds s, ds.length ≠ n → mkFz F ds s = .bad := fun ds s hl => by unfold mkFz; rw [h ds s hl]; rfl
end Pm
namespace Pm
open PySem PySem.Spec PyProof.Rows L2

/-! ### attributes of classes -/
section
variable {K : PySem.W.Frag} {cl : Str → Option Addr} {f : Str}
theorem na_nil : ∀ c ∈ ([] : List Str), ∀ A, cl c = some A → NoAttr K A f := fun c hc => nomatch hc
theorem na_cons {c : Str} {C : Addr} {cs : List Str} (h : cl c = some C) (n : NoAttr K C f) (r : ∀ c ∈ cs, ∀ A, cl c = some A → NoAttr K A f) : ∀ c' ∈ c :: cs, ∀ A, cl c' = some A → NoAttr K A f := fun c' hc A hA => by
  rcases List.mem_cons.mp hc with e | hc
  · subst e
    rw [h] at hA
    cases hA
    exact n
  · exact r c' hc A hA
end
/-! ### the law's end -/
theorem ints_rel {K : PySem.W.Frag} {w : World} {cl : Str → Option Addr} {ι : List Addr} {H : Hp} : ∀ ns : List Int, RelDs K w cl ι H (ns.map .int) (ns.map V.int)
  | [] => .nil
  | n :: ns => .cons (.int n) (ints_rel ns)
theorem RelS.empty {K : PySem.W.Frag} {w : World} {cl : Str → Option Addr} {H : Hp} : RelS K w cl [] [] H := ⟨rfl, .nil, fun n o e => by simp at e⟩
theorem walk_pm {l : PySem.W.OpenLaw} {n k : Nat} {q : Program} {loose : List Str} {XP : (Str → Option Value) → Heap → Prop} {YP : World → Heap → Prop} {d : DefRec} {K : Params → PySem.W.Frag} {f : List D → S → R D}
    (hn : l.most = some n) (hn2 : n ≤ sizeLine) (hdf : d.params.defaults = []) (hr : Room k callerA)
    (hY : ∀ (w : World) (h : Heap), YP w h → (K w.params).In h)
    (F : ∀ (w : World) (mg : Str → Option Value) (fa : Addr) (h : Heap), (K w.params).In h → h.Ns mainGlobals mg → mg d.name = some (.ref fa) →
      ∃ (fd : FuncData) (cl : Str → Option Addr), (∀ (s : Shared) (u : Value), BindsTo s fd ⟨[u], []⟩ [("script", u)]) ∧
        ∀ base : Heap, (K w.params).In base → base.Ns mainGlobals mg → FnOk l.prog w (K w.params) mg base (L2.CX l.prog w) k fa fd ["script"] (spD (K w.params) w cl 1 f))
    (plain : ∀ ns : List Int, ns.length ≤ n → (∀ z ∈ ns, Builtin.Int.intBits z ≤ 1048576) → ∃ s, f [.lst (ns.map .int)] [] = .ok (.bl true) s) :
    PySem.W.WalkO q loose XP YP l.row.toRowW d [] (fun f vs => PySem.call f vs) := by
  refine L2.walk_ofB (n := n) (k := k) (x := "script") (CX := fun w => L2.CX l.prog w) (sp := fun w vs H Q E => vs.length = 1 ∧ ∀ cl, spD (K w.params) w cl 1 f vs H Q E) hn hn2 hdf hr hY (fun w mg fa h KX G hmg => ?_) (fun w H a ns hl hb hO hS => ?_) fun w H s e s' ⟨_, _, _, _, _, _, _, _, _, _, _, _, z⟩ => z
  · obtain ⟨fd, cl, hb, hF⟩ := F w mg fa h KX G hmg
    exact ⟨fd, hb, fun base KB GB => (hF base KB GB).imp fun vs H Q E z => z.2 cl⟩
  · obtain ⟨s, hs⟩ := plain ns hl hb
    refine ⟨rfl, fun cl => ⟨rfl, [], [], [.lst (ns.map .int)], RelS.empty, .cons (.lst ?_ (ints_rel ns)) .nil, ?_⟩⟩
    · rcases hS with h | h
      · exact .inl ⟨h, List.not_mem_nil⟩
      · exact .inr h
    · rw [hs]
      intro ι' H' v x r rd
      cases rd
      rfl
end Pm
namespace Pm.Z
open PySem PySem.Spec PyProof.Rows L2

/-! ### what a term gives: a calculus over M -/
def wp {α : Type} (r : R α) (Q : α → S → Prop) : Prop := match r with
  | .ok a s => Q a s
  | _ => False
def wS (r : RS) (Q : C → S → Prop) : Prop := match r with
  | .ok c s => Q c s
  | _ => False
def rtQ (Q : D → S → Prop) : C → S → Prop
  | .rt d, s => Q d s
  | .nx _, s => Q .non s
  | _, _ => False
def seqQ (b : MS) (Q : C → S → Prop) : C → S → Prop
  | .nx ρ, s => wS (b ρ s) Q
  | c, s => Q c s
section
variable {α β : Type} {Q : α → S → Prop}
theorem wp_ok {a : α} {s : S} : wp (.ok a s) Q = Q a s := rfl
theorem wp_bad : wp (.bad : R α) Q = False := rfl
theorem wp_bind {r : R β} {f : β → S → R α} : wp (r.bind f) Q = wp r fun b s => wp (f b s) Q := by cases r <;> rfl
theorem wp_mono {Q' : α → S → Prop} {r : R α} (h : wp r Q) (k : ∀ a s, Q a s → Q' a s) : wp r Q' := by
  cases r with
  | ok a s => exact k a s h
  | exc x s => exact h.elim
  | bad => exact h.elim
theorem wp_ite {p : Prop} [Decidable p] {a b : R α} : wp (if p then a else b) Q = if p then wp a Q else wp b Q := by split <;> rfl
theorem wp_ex {r : R α} (h : wp r Q) : ∃ a s, r = .ok a s ∧ Q a s := by
  cases r with
  | ok a s => exact ⟨a, s, rfl, h⟩
  | exc x s => exact h.elim
  | bad => exact h.elim
end
section
variable {Q : C → S → Prop} {ρ : Rho} {s : S}
theorem wS_ok {c : C} : wS (.ok c s) Q = Q c s := rfl
theorem wS_bad : wS .bad Q = False := rfl
theorem wS_mono {Q' : C → S → Prop} {r : RS} (h : wS r Q) (k : ∀ a s, Q a s → Q' a s) : wS r Q' := by
  cases r with
  | ok a s => exact k a s h
  | exc x ρ s => exact h.elim
  | bad => exact h.elim
theorem wS_ite {p : Prop} [Decidable p] {a b : RS} : wS (if p then a else b) Q = if p then wS a Q else wS b Q := by split <;> rfl
theorem wS_st {α : Type} {r : R α} {f : α → S → RS} : wS (r.st ρ f) Q = wp r fun a s => wS (f a s) Q := by cases r <;> rfl
theorem wS_cons {a b : MS} : wS (ssCons a b ρ s) Q = wS (a ρ s) (seqQ b Q) := by
  unfold ssCons RS.andThen
  cases a ρ s with
  | ok c s1 => cases c <;> rfl
  | exc x ρ s1 => rfl
  | bad => rfl
theorem wS_nil : wS (ssNil ρ s) Q = Q (.nx ρ) s := rfl
theorem wS_pass : wS (sPass ρ s) Q = Q (.nx ρ) s := rfl
theorem wS_break : wS (sBreak ρ s) Q = Q (.bk ρ) s := rfl
theorem wS_cont : wS (sCont ρ s) Q = Q (.ct ρ) s := rfl
theorem wS_never : wS (sNever ρ s) Q = False := rfl
theorem wS_set {i : Nat} {m : ME} : wS (sSet i m ρ s) Q = wp (m ρ s) fun d s1 => Q (.nx (ρ.set i (some d))) s1 := wS_st
theorem wS_expr {m : ME} : wS (sExpr m ρ s) Q = wp (m ρ s) fun _ s1 => Q (.nx ρ) s1 := wS_st
theorem wS_ret {m : ME} : wS (sRet m ρ s) Q = wp (m ρ s) fun d s1 => Q (.rt d) s1 := wS_st
theorem wS_retN : wS (sRetN ρ s) Q = Q (.rt .non) s := rfl
theorem wS_if {c : MT} {a b : MS} : wS (sIf c a b ρ s) Q = wp (c ρ s) fun k s1 => if k = true then wS (a ρ s1) Q else wS (b ρ s1) Q := by
  unfold sIf
  rw [wS_st]
  congr 1
  funext k s1
  exact wS_ite
theorem wS_asg {m : ME} {g : MG} : wS (sAsg m g ρ s) Q = wp (m ρ s) fun d s1 => wp (g d ρ s1) fun ρ1 s2 => Q (.nx ρ1) s2 := by
  unfold sAsg
  rw [wS_st]
  congr 1
  funext d s1
  cases g d ρ s1 <;> rfl
theorem wS_aug {i : Nat} {f : D → D → S → R D} {m : ME} : wS (sAug i f m ρ s) Q = wp (mVar i ρ s) fun x s0 => wp (m ρ s0) fun y s1 => wp (f x y s1) fun z s2 => Q (.nx (ρ.set i (some z))) s2 := by
  unfold sAug mVar
  cases h : ρ[i]? with
  | none => rfl
  | some o =>
    cases o with
    | none => rfl
    | some x =>
      simp only [wp_ok, wS_st]
      rfl
/-- behind one turn of a loop -/
def turnQ (k : Rho → S → Prop) (Q : C → S → Prop) : C → S → Prop
  | .nx ρ, s => k ρ s
  | .ct ρ, s => k ρ s
  | .bk ρ, s => Q (.nx ρ) s
  | .rt d, s => Q (.rt d) s
theorem wS_for {it : MI} {g : MG} {b : MS} : wS (sFor it g b ρ s) Q = wp (it ρ s) fun p s1 => wS (forL p.2 p.1 g b p.1 ρ s1) Q := wS_st
open Classical in
theorem wS_forL_nil {gd : Option Nat} {all : List D} {g : MG} {b : MS} : wS (forL gd all g b [] ρ s) Q = (gOk gd all s ∧ Q (.nx ρ) s) := by
  unfold forL
  rw [wS_ite]
  by_cases h : gOk gd all s
  · rw [if_pos h, wS_ok]; simp [h]
  · rw [if_neg h, wS_bad]; simp [h]
open Classical in
theorem wS_forL_cons {gd : Option Nat} {all xs : List D} {x : D} {g : MG} {b : MS} : wS (forL gd all g b (x :: xs) ρ s) Q = (gOk gd all s ∧ wp (g x ρ s) fun ρ1 s1 => wS (b ρ1 s1) (turnQ (fun ρ2 s2 => wS (forL gd all g b xs ρ2 s2) Q) Q)) := by
  rw [show forL gd all g b (x :: xs) ρ s = _ from by unfold forL; rfl, wS_ite]
  by_cases h : gOk gd all s
  · rw [if_pos h]
    simp only [h, true_and]
    cases g x ρ s with
    | ok ρ1 s1 =>
      simp only [wp_ok]
      cases b ρ1 s1 with
      | ok c s2 => cases c <;> rfl
      | exc x ρ2 s2 => rfl
      | bad => rfl
    | exc x s1 => rfl
    | bad => rfl
  · rw [if_neg h, wS_bad]; simp [h]
/-- a for with an invariant: what stands ahead of the items xs -/
theorem wS_forL {gd : Option Nat} {all : List D} {g : MG} {b : MS} (I : List D → Rho → S → Prop) (hg : ∀ xs ρ s, I xs ρ s → gOk gd all s) (hn : ∀ ρ s, I [] ρ s → Q (.nx ρ) s)
    (hc : ∀ x xs ρ s, I (x :: xs) ρ s → wp (g x ρ s) fun ρ1 s1 => wS (b ρ1 s1) (turnQ (I xs) Q)) : ∀ (xs : List D) (ρ : Rho) (s : S), I xs ρ s → wS (forL gd all g b xs ρ s) Q
  | [], ρ, s, h => by rw [wS_forL_nil]; exact ⟨hg _ _ _ h, hn _ _ h⟩
  | x :: xs, ρ, s, h => by
    rw [wS_forL_cons]
    refine ⟨hg _ _ _ h, wp_mono (hc x xs ρ s h) fun ρ1 s1 h1 => wS_mono h1 fun c s2 h2 => ?_⟩
    cases c with
    | nx ρ2 => exact wS_forL I hg hn hc xs ρ2 s2 h2
    | ct ρ2 => exact wS_forL I hg hn hc xs ρ2 s2 h2
    | bk ρ2 => exact h2
    | rt d => exact h2
theorem wS_forN {all : List D} {g : MG} {b : MS} (I : List D → Rho → S → Prop) (hn : ∀ ρ s, I [] ρ s → Q (.nx ρ) s)
    (hc : ∀ x xs ρ s, I (x :: xs) ρ s → wp (g x ρ s) fun ρ1 s1 => wS (b ρ1 s1) (turnQ (I xs) Q)) (xs : List D) (ρ : Rho) (s : S) (h : I xs ρ s) : wS (forL none all g b xs ρ s) Q :=
  wS_forL (gd := none) I (fun _ _ _ _ => trivial) hn hc xs ρ s h
theorem wS_while {c : MT} {b : MS} : wS (sWhile c b ρ s) Q = wp (c ρ s) fun k s1 => if k = true then wS (b ρ s1) (turnQ (fun ρ2 s2 => wS (sWhile c b ρ2 s2) Q) Q) else Q (.nx ρ) s1 := by
  rw [sWhile_eq]
  cases c ρ s with
  | exc x s1 => rfl
  | bad => rfl
  | ok k s1 =>
    cases k with
    | false => rfl
    | true =>
      simp only [wp_ok, if_true]
      cases b ρ s1 with
      | ok c s2 => cases c <;> rfl
      | exc x ρ2 s2 => rfl
      | bad => rfl
/-- a comprehension with an invariant -/
theorem wp_mapL {gd : Option Nat} {all : List D} {g : MG} {t : MT} {m : ME} {ρ : Rho} (I : List D → List D → S → Prop) {Q : List D → S → Prop} (hg : ∀ xs a s, I xs a s → gOk gd all s)
    (hc : ∀ x xs a s, I (x :: xs) a s → wp (g x ρ s) fun ρ1 s1 => wp (t ρ1 s1) fun k s2 => if k = true then wp (m ρ1 s2) fun d s3 => I xs (a ++ [d]) s3 else I xs a s2) :
    ∀ (xs a : List D) (s : S), I xs a s → (∀ a' s', I [] (a ++ a') s' → Q a' s') → wp (mapL gd all g t m xs ρ s) Q
  | [], a, s, h, hn => by
    unfold mapL
    rw [if_pos (hg _ _ _ h)]
    exact hn [] s (by rw [List.append_nil]; exact h)
  | x :: xs, a, s, h, hn => by
    unfold mapL
    rw [if_pos (hg _ _ _ h)]
    have h1 := hc x xs a s h
    cases e1 : g x ρ s with
    | exc y s1 => rw [e1] at h1; exact h1.elim
    | bad => rw [e1] at h1; exact h1.elim
    | ok ρ1 s1 =>
    rw [e1] at h1
    simp only [wp_ok] at h1 ⊢
    cases e2 : t ρ1 s1 with
    | exc y s2 => rw [e2] at h1; exact h1.elim
    | bad => rw [e2] at h1; exact h1.elim
    | ok k s2 =>
    rw [e2] at h1
    simp only [wp_ok] at h1
    cases k with
    | false =>
      simp only at h1 ⊢
      exact wp_mapL I hg hc xs a s2 h1 hn
    | true =>
      simp only [if_true] at h1 ⊢
      cases e3 : m ρ1 s2 with
      | exc y s3 => rw [e3] at h1; exact h1.elim
      | bad => rw [e3] at h1; exact h1.elim
      | ok d s3 =>
      rw [e3] at h1
      simp only [wp_ok] at h1 ⊢
      have h2 := wp_mapL (Q := fun ds s4 => Q (d :: ds) s4) I hg hc xs (a ++ [d]) s3 h1 fun a' s' h3 => hn (d :: a') s' (by rw [List.append_assoc] at h3; exact h3)
      cases e4 : mapL gd all g t m xs ρ s3 with
      | exc y s4 => rw [e4] at h2; exact h2.elim
      | bad => rw [e4] at h2; exact h2.elim
      | ok ds s4 => rw [e4] at h2; exact h2
end
section
variable {Q : D → S → Prop} {ρ : Rho} {s : S}
theorem wp_lc {it : MI} {g : MG} {t : MT} {m : ME} {own : List Nat} : wp (mLc it g t m own ρ s) Q = wp (it ρ s) fun p s1 => wp (mapL p.2 p.1 g t m p.1 (wipeD ρ own) s1) fun ds s2 => p.1.length ≤ sizeLine ∧ Q (.lst ds) s2 := by
  unfold mLc
  rw [wp_bind]
  congr 1
  funext p s1
  cases mapL p.2 p.1 g t m p.1 (wipeD ρ own) s1 with
  | ok ds s2 =>
    simp only [wp_ok]
    by_cases h : p.1.length ≤ sizeLine
    · rw [if_pos h]; simp [wp_ok, h]
    · rw [if_neg h]; simp [wp_bad, h]
  | exc x s2 => rfl
  | bad => rfl
theorem wp_fn {n tot : Nat} {m : MS} {ds : List D} (h : ds.length = n) : wp (mkFn n tot m ds s) Q = wS (m (ds.map some ++ List.replicate (tot - n) none) s) (rtQ Q) := by
  unfold mkFn
  rw [if_pos h]
  cases m (ds.map some ++ List.replicate (tot - n) none) s with
  | ok c s1 => cases c <;> rfl
  | exc x ρ s1 => rfl
  | bad => rfl
def fzQ (n : Nat) (Q : D → S → Prop) : D → S → Prop := fun d s => ∃ d', frzD s n 20 d = some d' ∧ stOk n s = true ∧ Q d' (s.take n)
theorem wp_frz {n : Nat} {r : R D} (h : wp r (fzQ n Q)) : wp (frzR n r) Q := by
  cases r with
  | ok d s =>
    obtain ⟨d', e, h1, h2⟩ := h
    unfold frzR
    simp only [e]
    rw [if_pos h1]
    exact h2
  | exc x s => exact h.elim
  | bad => exact h.elim
theorem wp_mFz {m : ME} (h : wp (m ρ s) (fzQ s.length Q)) : wp (mFz m ρ s) Q := wp_frz h
theorem wp_mkFz {F : List D → S → R D} {ds : List D} (h : wp (F ds s) (fzQ s.length Q)) : wp (mkFz F ds s) Q := wp_frz h
theorem wp_make {c : Str} {G : List D → S → R D} {ms : MA} : wp (mMake c G ms ρ s) Q = wp (ms ρ s) fun ds s1 => wp (G (.ref s1.length :: ds) (s1 ++ [.ins c []])) fun d s2 => d = .non ∧ Q (.ref s1.length) s2 := by
  unfold mMake
  rw [wp_bind]
  congr 1
  funext ds s1
  cases G (.ref s1.length :: ds) (s1 ++ [.ins c []]) with
  | ok d s2 =>
    cases d <;> simp [wp_ok, wp_bad]
  | exc x s2 => rfl
  | bad => rfl
/-! values -/
theorem wp_m1 {f : D → S → R D} {a : ME} : wp (m1 f a ρ s) Q = wp (a ρ s) fun x s1 => wp (f x s1) Q := wp_bind
theorem wp_m2 {f : D → D → S → R D} {a b : ME} : wp (m2 f a b ρ s) Q = wp (a ρ s) fun x s1 => wp (b ρ s1) fun y s2 => wp (f x y s2) Q := by
  unfold m2
  rw [wp_bind]
  congr 1
  funext x s1
  exact wp_bind
theorem wp_mN {f : List D → S → R D} {a : MA} : wp (mN f a ρ s) Q = wp (a ρ s) fun x s1 => wp (f x s1) Q := wp_bind
theorem wp_aNil {Q : List D → S → Prop} : wp (aNil ρ s) Q = Q [] s := rfl
theorem wp_aCons {a : ME} {r : MA} {Q : List D → S → Prop} : wp (aCons a r ρ s) Q = wp (a ρ s) fun x s1 => wp (r ρ s1) fun xs s2 => Q (x :: xs) s2 := by
  unfold aCons
  rw [wp_bind]
  congr 1
  funext x s1
  exact wp_bind
theorem wp_mC {d : D} : wp (mC d ρ s) Q = Q d s := rfl
theorem wp_var {i : Nat} : wp (mVar i ρ s) Q = match ρ[i]? with | some (some d) => Q d s | _ => False := by
  unfold mVar
  cases ρ[i]? with
  | none => rfl
  | some o => cases o <;> rfl
theorem wp_if {c : MT} {a b : ME} : wp (mIf c a b ρ s) Q = wp (c ρ s) fun k s1 => if k = true then wp (a ρ s1) Q else wp (b ρ s1) Q := by
  unfold mIf
  rw [wp_bind]
  congr 1
  funext k s1
  exact wp_ite
theorem wp_and {a b : ME} : wp (mAnd a b ρ s) Q = wp (a ρ s) fun d s1 => match d with | .bl true => wp (b ρ s1) Q | .bl false => Q (.bl false) s1 | _ => False := by
  unfold mAnd
  rw [wp_bind]
  congr 1
  funext d s1
  cases d <;> try rfl
  rename_i k
  cases k <;> rfl
theorem wp_or {a b : ME} : wp (mOr a b ρ s) Q = wp (a ρ s) fun d s1 => match d with | .bl true => Q (.bl true) s1 | .bl false => wp (b ρ s1) Q | _ => False := by
  unfold mOr
  rw [wp_bind]
  congr 1
  funext d s1
  cases d <;> try rfl
  rename_i k
  cases k <;> rfl
theorem wp_not {a : ME} : wp (mNot a ρ s) Q = wp (a ρ s) fun d s1 => match d with | .bl b => Q (.bl (!b)) s1 | _ => False := by
  unfold mNot
  rw [wp_bind]
  congr 1
  funext d s1
  cases d <;> rfl
theorem wp_chain {f g : D → D → S → R D} {a b c : ME} : wp (mChain f g a b c ρ s) Q = wp (a ρ s) fun x s1 => wp (b ρ s1) fun y s2 => wp (f x y s2) fun k s3 => match k with | .bl true => wp (c ρ s3) (fun z s4 => wp (g y z s4) Q) | .bl false => Q (.bl false) s3 | _ => False := by
  unfold mChain
  rw [wp_bind]
  congr 1
  funext x s1
  rw [wp_bind]
  congr 1
  funext y s2
  rw [wp_bind]
  congr 1
  funext k s3
  cases k <;> try rfl
  rename_i b
  cases b
  · rfl
  · exact wp_bind
theorem wp_mt {T : String} {f : D → List D → S → R D} {a : ME} {as : MA} : wp (mMt T f a as ρ s) Q = wp (a ρ s) fun x s1 => hasTy T s1 x = true ∧ wp (as ρ s1) fun xs s2 => wp (f x xs s2) Q := by
  unfold mMt
  rw [wp_bind]
  congr 1
  funext x s1
  by_cases h : hasTy T s1 x = true
  · rw [if_pos h, wp_bind]; simp [h]
  · rw [if_neg h]; simp [h, wp_bad]
theorem wp_get {a b : ME} : wp (mGet a b ρ s) Q = wp (a ρ s) fun x s1 => match x with | .dic kvs => wp (b ρ s1) (fun y s2 => match y with | .str z => Q ((kvs.lookup z).getD .non) s2 | _ => False) | _ => False := by
  unfold mGet
  rw [wp_bind]
  congr 1
  funext x s1
  cases x <;> try rfl
  rename_i kvs
  simp only
  rw [wp_bind]
  congr 1
  funext y s2
  cases y <;> try rfl
  rename_i z
  simp only
  cases kvs.lookup z <;> rfl
theorem wp_isi {tys : List String} {a : ME} : wp (mIsi tys a ρ s) Q = wp (a ρ s) fun d s1 => match tyName s1 d with | some t => Q (.bl (tys.any (isSub t))) s1 | none => False := by
  unfold mIsi
  rw [wp_bind]
  congr 1
  funext d s1
  cases tyName s1 d <;> rfl
theorem wp_fld {f : Str} {cs : List Str} {a : ME} : wp (mFld f cs a ρ s) Q = wp (a ρ s) fun d s1 => match insOf s1 d with | some (c, fs) => c ∈ cs ∧ (match fs.lookup f with | some v => Q v s1 | none => False) | none => False := by
  unfold mFld
  rw [wp_bind]
  congr 1
  funext d s1
  cases insOf s1 d with
  | none => rfl
  | some p =>
    obtain ⟨c, fs⟩ := p
    simp only
    by_cases h : c ∈ cs
    · rw [if_pos h]
      simp only [h, true_and]
      cases fs.lookup f <;> rfl
    · rw [if_neg h]; simp [h, wp_bad]
theorem wp_sl {m : ME} {lo hi : Rho → S → R (Option Int)} : wp (mSl m lo hi ρ s) Q = wp (m ρ s) fun d s1 => wp (lo ρ s1) fun l s2 => wp (hi ρ s2) fun h s3 => wp (dSl l h d s3) Q := by
  unfold mSl
  rw [wp_bind]
  congr 1
  funext d s1
  rw [wp_bind]
  congr 1
  funext l s2
  exact wp_bind
theorem wp_oNone {Q : Option Int → S → Prop} : wp (oNone ρ s) Q = Q none s := rfl
theorem wp_oSome {m : ME} {Q : Option Int → S → Prop} : wp (oSome m ρ s) Q = wp (m ρ s) fun d s1 => match d with | .int i => Q (some i) s1 | _ => False := by
  unfold oSome
  rw [wp_bind]
  congr 1
  funext d s1
  cases d <;> rfl
/-! tests -/
variable {Q' : Bool → S → Prop}
theorem wp_tBool {a : ME} : wp (tBool a ρ s) Q' = wp (a ρ s) fun d s1 => match d with | .bl b => Q' b s1 | _ => False := by
  unfold tBool
  rw [wp_bind]
  congr 1
  funext d s1
  cases d <;> rfl
theorem wp_tTru {f : D → S → Option Bool} {a : ME} : wp (tTru f a ρ s) Q' = wp (a ρ s) fun d s1 => match f d s1 with | some b => Q' b s1 | none => False := by
  unfold tTru
  rw [wp_bind]
  congr 1
  funext d s1
  cases f d s1 <;> rfl
theorem wp_tNot {a : MT} : wp (tNot1 a ρ s) Q' = wp (a ρ s) fun k s1 => Q' (!k) s1 := wp_bind
theorem wp_tAnd {a b : MT} : wp (tAnd2 a b ρ s) Q' = wp (a ρ s) fun k s1 => if k = true then wp (b ρ s1) Q' else Q' false s1 := by
  unfold tAnd2
  rw [wp_bind]
  congr 1
  funext k s1
  rw [wp_ite]
  rfl
theorem wp_tOr {a b : MT} : wp (tOr2 a b ρ s) Q' = wp (a ρ s) fun k s1 => if k = true then Q' true s1 else wp (b ρ s1) Q' := by
  unfold tOr2
  rw [wp_bind]
  congr 1
  funext k s1
  rw [wp_ite]
  rfl
theorem wp_tAll : wp (tAll ρ s) Q' = Q' true s := rfl
/-! targets, iterables -/
theorem wp_gSlot {i : Nat} {d : D} {Q : Rho → S → Prop} : wp (gSlot i d ρ s) Q = Q (ρ.set i (some d)) s := rfl
theorem wp_gsNil {Q : Rho → S → Prop} : wp (gsNil [] ρ s) Q = Q ρ s := rfl
theorem wp_gsCons {g : MG} {r : MGs} {d : D} {ds : List D} {Q : Rho → S → Prop} : wp (gsCons g r (d :: ds) ρ s) Q = wp (g d ρ s) fun ρ1 s1 => wp (r ds ρ1 s1) Q := wp_bind
theorem wp_gTup {n : Nat} {r : MGs} {d : D} {Q : Rho → S → Prop} : wp (gTupD n r d ρ s) Q = match d with | .tup ds => ds.length = n ∧ wp (r ds ρ s) Q | _ => False := by
  unfold gTupD
  cases d <;> try rfl
  rename_i ds
  simp only
  by_cases h : ds.length = n
  · rw [if_pos h]; simp [h]
  · rw [if_neg h]; simp [h, wp_bad]
theorem wp_gSub {o i : ME} {v : D} {Q : Rho → S → Prop} : wp (gSubD o i v ρ s) Q = wp (o ρ s) fun x s1 => wp (i ρ s1) fun y s2 => match dStore x y v s2 with | some s3 => Q ρ s3 | none => False := by
  unfold gSubD
  rw [wp_bind]
  congr 1
  funext x s1
  rw [wp_bind]
  congr 1
  funext y s2
  cases dStore x y v s2 <;> rfl
variable {QI : List D × Option Nat → S → Prop}
theorem wp_iSeq {m : ME} : wp (iSeq m ρ s) QI = wp (m ρ s) fun d s1 => match d with | .lst xs => QI (xs, none) s1 | .ref n => (match s1[n]? with | some (.lst xs) => QI (xs, some n) s1 | _ => False) | _ => False := by
  unfold iSeq
  rw [wp_bind]
  congr 1
  funext d s1
  cases d <;> try rfl
  rename_i n
  simp only
  cases s1[n]? with
  | none => rfl
  | some o => cases o <;> rfl
theorem wp_iAny {m : ME} : wp (iAny m ρ s) QI = wp (m ρ s) fun d s1 => match d with | .lst xs => QI (xs, none) s1 | .tup xs => QI (xs, none) s1 | .str x => QI (x.cps.toList.map fun c => .str ⟨#[c]⟩, none) s1 | .ref n => (match s1[n]? with | some (.lst xs) => QI (xs, some n) s1 | _ => False) | _ => False := by
  unfold iAny
  rw [wp_bind]
  congr 1
  funext d s1
  cases d <;> try rfl
  rename_i n
  simp only
  cases s1[n]? with
  | none => rfl
  | some o => cases o <;> rfl
theorem wp_iTup {m : ME} : wp (iTupD m ρ s) QI = wp (m ρ s) fun d s1 => match d with | .tup xs => QI (xs, none) s1 | _ => False := by
  unfold iTupD
  rw [wp_bind]
  congr 1
  funext d s1
  cases d <;> rfl
theorem wp_iStr {m : ME} : wp (iStrD m ρ s) QI = wp (m ρ s) fun d s1 => match d with | .str x => QI (x.cps.toList.map fun c => .str ⟨#[c]⟩, none) s1 | _ => False := by
  unfold iStrD
  rw [wp_bind]
  congr 1
  funext d s1
  cases d <;> rfl
theorem wp_iRange1 {m : ME} : wp (iRange1 m ρ s) QI = wp (m ρ s) fun d s1 => match d with | .int j => (-(2 ^ 62) ≤ j ∧ j < 2 ^ 62) ∧ QI (rng 0 j.toNat, none) s1 | _ => False := by
  unfold iRange1
  rw [wp_bind]
  congr 1
  funext d s1
  cases d <;> try rfl
  rename_i j
  simp only
  by_cases h : -(2 ^ 62) ≤ j ∧ j < 2 ^ 62
  · rw [if_pos h]; simp only [h, and_self, true_and]; rfl
  · rw [if_neg h]; simp only [h, false_and]; rfl
theorem wp_iRange2 {a b : ME} : wp (iRange2 a b ρ s) QI = wp (a ρ s) fun d s1 => wp (b ρ s1) fun e s2 => match d, e with | .int i, .int j => (-(2 ^ 62) ≤ i ∧ i < 2 ^ 62 ∧ -(2 ^ 62) ≤ j ∧ j < 2 ^ 62) ∧ QI (rng i (j - i).toNat, none) s2 | _, _ => False := by
  unfold iRange2
  rw [wp_bind]
  congr 1
  funext d s1
  rw [wp_bind]
  congr 1
  funext e s2
  cases d <;> cases e <;> try rfl
  rename_i i j
  simp only
  by_cases h : -(2 ^ 62) ≤ i ∧ i < 2 ^ 62 ∧ -(2 ^ 62) ≤ j ∧ j < 2 ^ 62
  · rw [if_pos h]; simp only [h, and_self, true_and]; rfl
  · rw [if_neg h]; simp only [h, false_and]; rfl
theorem wp_iZip {a b : ME} : wp (iZipD a b ρ s) QI = wp (a ρ s) fun d s1 => wp (b ρ s1) fun e s2 => match fview d, fview e with | some xs, some ys => QI (zipD xs ys, none) s2 | _, _ => False := by
  unfold iZipD
  rw [wp_bind]
  congr 1
  funext d s1
  rw [wp_bind]
  congr 1
  funext e s2
  cases fview d <;> cases fview e <;> rfl
theorem wS_fld {f : Str} {cs : List Str} {mo mv : ME} {Q : C → S → Prop} : wS (sFldD f cs mo mv ρ s) Q = wp (mv ρ s) fun v s1 => wp (mo ρ s1) fun d s2 => match d with
    | .ref n => (match s2[n]? with | some (.ins c fs) => (c ∈ cs ∧ fs.length < 1000) ∧ Q (.nx ρ) (s2.set n (.ins c (putFD f v fs))) | _ => False)
    | _ => False := by
  unfold sFldD
  rw [wS_st]
  congr 1
  funext v s1
  rw [wS_st]
  congr 1
  funext d s2
  cases d <;> try rfl
  rename_i n
  simp only
  cases s2[n]? with
  | none => rfl
  | some o =>
    cases o with
    | lst xs => rfl
    | ins c fs =>
      simp only
      by_cases h : c ∈ cs ∧ fs.length < 1000
      · rw [if_pos h]; simp only [h, and_self, true_and]; rfl
      · rw [if_neg h]; simp only [h, false_and]; rfl
end
def cutQ (n : Nat) (Q : C → S → Prop) : C → S → Prop
  | .nx ρ, s => stOk n s = true ∧ Q (.nx (cutRho n ρ)) (s.take n)
  | .ct ρ, s => stOk n s = true ∧ Q (.ct (cutRho n ρ)) (s.take n)
  | .bk ρ, s => stOk n s = true ∧ Q (.bk (cutRho n ρ)) (s.take n)
  | .rt d, s => Q (.rt d) s
theorem wS_cut {m : MS} {ρ : Rho} {s : S} {Q : C → S → Prop} : wS (sCut m ρ s) Q = wS (m ρ s) (cutQ s.length Q) := by
  unfold sCut
  cases m ρ s with
  | bad => rfl
  | exc x ρ1 s1 => rfl
  | ok c s1 =>
    cases c with
    | rt d => rfl
    | nx ρ1 =>
      unfold cutS
      by_cases h : stOk s.length s1 = true
      · simp only [h, if_true]; show Q _ _ = (_ ∧ _); simp [h]
      · simp only [h]; show False = (_ ∧ _); simp [h]
    | ct ρ1 =>
      unfold cutS
      by_cases h : stOk s.length s1 = true
      · simp only [h, if_true]; show Q _ _ = (_ ∧ _); simp [h]
      · simp only [h]; show False = (_ ∧ _); simp [h]
    | bk ρ1 =>
      unfold cutS
      by_cases h : stOk s.length s1 = true
      · simp only [h, if_true]; show Q _ _ = (_ ∧ _); simp [h]
      · simp only [h]; show False = (_ ∧ _); simp [h]
end Pm.Z
namespace Pm
open PySem PySem.Spec PyProof.Rows L2

/-! ### the calculus, closed: no reading of what stands within wp and wS -/
structure wp {α : Type} (r : R α) (Q : α → S → Prop) : Prop where
  go : Z.wp r Q
structure wS (r : RS) (Q : C → S → Prop) : Prop where
  go : Z.wS r Q
theorem wp_eq {α : Type} : @wp α = @Z.wp α := funext fun r => funext fun Q => propext ⟨fun h => h.go, fun h => ⟨h⟩⟩
theorem wS_eq : wS = Z.wS := funext fun r => funext fun Q => propext ⟨fun h => h.go, fun h => ⟨h⟩⟩
def rtQ (Q : D → S → Prop) : C → S → Prop
  | .rt d, s => Q d s
  | .nx _, s => Q .non s
  | _, _ => False
def seqQ (b : MS) (Q : C → S → Prop) : C → S → Prop
  | .nx ρ, s => wS (b ρ s) Q
  | c, s => Q c s
def turnQ (k : Rho → S → Prop) (Q : C → S → Prop) : C → S → Prop
  | .nx ρ, s => k ρ s
  | .ct ρ, s => k ρ s
  | .bk ρ, s => Q (.nx ρ) s
  | .rt d, s => Q (.rt d) s
def fzQ (n : Nat) (Q : D → S → Prop) : D → S → Prop := fun d s => ∃ d', frzD s n 20 d = some d' ∧ stOk n s = true ∧ Q d' (s.take n)
theorem rtQ_eq : rtQ = Z.rtQ := by
  funext Q c s
  cases c <;> rfl
theorem seqQ_eq : seqQ = Z.seqQ := by
  funext b Q c s
  cases c <;> first
    | rfl
    | exact congrFun (congrFun wS_eq _) _
theorem turnQ_eq : turnQ = Z.turnQ := by
  funext k Q c s
  cases c <;> rfl
theorem fzQ_eq : fzQ = Z.fzQ := rfl
section
variable {α β : Type} {Q : α → S → Prop}
theorem wp_ok {a : α} {s : S} : wp (.ok a s) Q = Q a s := by rw [wp_eq]; rfl
theorem wp_bad : wp (.bad : R α) Q = False := by rw [wp_eq]; rfl
theorem wp_bind {r : R β} {f : β → S → R α} : wp (r.bind f) Q = wp r fun b s => wp (f b s) Q := by simp only [wp_eq, wS_eq, rtQ_eq, seqQ_eq, turnQ_eq, fzQ_eq]; exact Z.wp_bind
theorem wp_mono {Q' : α → S → Prop} {r : R α} (h : wp r Q) (k : ∀ a s, Q a s → Q' a s) : wp r Q' := ⟨Z.wp_mono h.go k⟩
theorem wp_ite {p : Prop} [Decidable p] {a b : R α} : wp (if p then a else b) Q = if p then wp a Q else wp b Q := by simp only [wp_eq, wS_eq, rtQ_eq, seqQ_eq, turnQ_eq, fzQ_eq]; exact Z.wp_ite
theorem wp_ex {r : R α} (h : wp r Q) : ∃ a s, r = .ok a s ∧ Q a s := Z.wp_ex h.go
end
section
variable {Q : C → S → Prop} {ρ : Rho} {s : S}
theorem wS_ok {c : C} : wS (.ok c s) Q = Q c s := by rw [wS_eq]; rfl
theorem wS_bad : wS .bad Q = False := by rw [wS_eq]; rfl
theorem wS_mono {Q' : C → S → Prop} {r : RS} (h : wS r Q) (k : ∀ a s, Q a s → Q' a s) : wS r Q' := ⟨Z.wS_mono h.go k⟩
theorem wS_ite {p : Prop} [Decidable p] {a b : RS} : wS (if p then a else b) Q = if p then wS a Q else wS b Q := by simp only [wp_eq, wS_eq, rtQ_eq, seqQ_eq, turnQ_eq, fzQ_eq]; exact Z.wS_ite
theorem wS_st {α : Type} {r : R α} {f : α → S → RS} : wS (r.st ρ f) Q = wp r fun a s => wS (f a s) Q := by simp only [wp_eq, wS_eq, rtQ_eq, seqQ_eq, turnQ_eq, fzQ_eq]; exact Z.wS_st
theorem wS_cons {a b : MS} : wS (ssCons a b ρ s) Q = wS (a ρ s) (seqQ b Q) := by simp only [wp_eq, wS_eq, rtQ_eq, seqQ_eq, turnQ_eq, fzQ_eq]; exact Z.wS_cons
theorem wS_nil : wS (ssNil ρ s) Q = Q (.nx ρ) s := by simp only [wp_eq, wS_eq, rtQ_eq, seqQ_eq, turnQ_eq, fzQ_eq]; exact Z.wS_nil
theorem wS_pass : wS (sPass ρ s) Q = Q (.nx ρ) s := by simp only [wp_eq, wS_eq, rtQ_eq, seqQ_eq, turnQ_eq, fzQ_eq]; exact Z.wS_pass
theorem wS_break : wS (sBreak ρ s) Q = Q (.bk ρ) s := by simp only [wp_eq, wS_eq, rtQ_eq, seqQ_eq, turnQ_eq, fzQ_eq]; exact Z.wS_break
theorem wS_cont : wS (sCont ρ s) Q = Q (.ct ρ) s := by simp only [wp_eq, wS_eq, rtQ_eq, seqQ_eq, turnQ_eq, fzQ_eq]; exact Z.wS_cont
theorem wS_never : wS (sNever ρ s) Q = False := by simp only [wp_eq, wS_eq, rtQ_eq, seqQ_eq, turnQ_eq, fzQ_eq]; exact Z.wS_never
theorem wS_set {i : Nat} {m : ME} : wS (sSet i m ρ s) Q = wp (m ρ s) fun d s1 => Q (.nx (ρ.set i (some d))) s1 := by simp only [wp_eq, wS_eq, rtQ_eq, seqQ_eq, turnQ_eq, fzQ_eq]; exact Z.wS_set
theorem wS_expr {m : ME} : wS (sExpr m ρ s) Q = wp (m ρ s) fun _ s1 => Q (.nx ρ) s1 := by simp only [wp_eq, wS_eq, rtQ_eq, seqQ_eq, turnQ_eq, fzQ_eq]; exact Z.wS_expr
theorem wS_ret {m : ME} : wS (sRet m ρ s) Q = wp (m ρ s) fun d s1 => Q (.rt d) s1 := by simp only [wp_eq, wS_eq, rtQ_eq, seqQ_eq, turnQ_eq, fzQ_eq]; exact Z.wS_ret
theorem wS_retN : wS (sRetN ρ s) Q = Q (.rt .non) s := by simp only [wp_eq, wS_eq, rtQ_eq, seqQ_eq, turnQ_eq, fzQ_eq]; exact Z.wS_retN
theorem wS_if {c : MT} {a b : MS} : wS (sIf c a b ρ s) Q = wp (c ρ s) fun k s1 => if k = true then wS (a ρ s1) Q else wS (b ρ s1) Q := by simp only [wp_eq, wS_eq, rtQ_eq, seqQ_eq, turnQ_eq, fzQ_eq]; exact Z.wS_if
theorem wS_asg {m : ME} {g : MG} : wS (sAsg m g ρ s) Q = wp (m ρ s) fun d s1 => wp (g d ρ s1) fun ρ1 s2 => Q (.nx ρ1) s2 := by simp only [wp_eq, wS_eq, rtQ_eq, seqQ_eq, turnQ_eq, fzQ_eq]; exact Z.wS_asg
theorem wS_aug {i : Nat} {f : D → D → S → R D} {m : ME} : wS (sAug i f m ρ s) Q = wp (mVar i ρ s) fun x s0 => wp (m ρ s0) fun y s1 => wp (f x y s1) fun z s2 => Q (.nx (ρ.set i (some z))) s2 := by simp only [wp_eq, wS_eq, rtQ_eq, seqQ_eq, turnQ_eq, fzQ_eq]; exact Z.wS_aug
theorem wS_for {it : MI} {g : MG} {b : MS} : wS (sFor it g b ρ s) Q = wp (it ρ s) fun p s1 => wS (forL p.2 p.1 g b p.1 ρ s1) Q := by simp only [wp_eq, wS_eq, rtQ_eq, seqQ_eq, turnQ_eq, fzQ_eq]; exact Z.wS_for
theorem wS_forL_nil {gd : Option Nat} {all : List D} {g : MG} {b : MS} : wS (forL gd all g b [] ρ s) Q = (gOk gd all s ∧ Q (.nx ρ) s) := by simp only [wp_eq, wS_eq, rtQ_eq, seqQ_eq, turnQ_eq, fzQ_eq]; exact Z.wS_forL_nil
theorem wS_forL_cons {gd : Option Nat} {all xs : List D} {x : D} {g : MG} {b : MS} : wS (forL gd all g b (x :: xs) ρ s) Q = (gOk gd all s ∧ wp (g x ρ s) fun ρ1 s1 => wS (b ρ1 s1) (turnQ (fun ρ2 s2 => wS (forL gd all g b xs ρ2 s2) Q) Q)) := by simp only [wp_eq, wS_eq, rtQ_eq, seqQ_eq, turnQ_eq, fzQ_eq]; exact Z.wS_forL_cons
theorem wS_forL {gd : Option Nat} {all : List D} {g : MG} {b : MS} (I : List D → Rho → S → Prop) (hg : ∀ xs ρ s, I xs ρ s → gOk gd all s) (hn : ∀ ρ s, I [] ρ s → Q (.nx ρ) s)
    (hc : ∀ x xs ρ s, I (x :: xs) ρ s → wp (g x ρ s) fun ρ1 s1 => wS (b ρ1 s1) (turnQ (I xs) Q)) (xs : List D) (ρ : Rho) (s : S) (h : I xs ρ s) : wS (forL gd all g b xs ρ s) Q := by
  simp only [wp_eq, wS_eq, rtQ_eq, seqQ_eq, turnQ_eq, fzQ_eq] at hc hn ⊢
  exact Z.wS_forL I hg hn hc xs ρ s h
theorem wS_forN {all : List D} {g : MG} {b : MS} (I : List D → Rho → S → Prop) (hn : ∀ ρ s, I [] ρ s → Q (.nx ρ) s)
    (hc : ∀ x xs ρ s, I (x :: xs) ρ s → wp (g x ρ s) fun ρ1 s1 => wS (b ρ1 s1) (turnQ (I xs) Q)) (xs : List D) (ρ : Rho) (s : S) (h : I xs ρ s) : wS (forL none all g b xs ρ s) Q :=
  wS_forL (gd := none) I (fun _ _ _ _ => trivial) hn hc xs ρ s h
theorem wS_while {c : MT} {b : MS} : wS (sWhile c b ρ s) Q = wp (c ρ s) fun k s1 => if k = true then wS (b ρ s1) (turnQ (fun ρ2 s2 => wS (sWhile c b ρ2 s2) Q) Q) else Q (.nx ρ) s1 := by simp only [wp_eq, wS_eq, rtQ_eq, seqQ_eq, turnQ_eq, fzQ_eq]; exact Z.wS_while
theorem wp_mapL {gd : Option Nat} {all : List D} {g : MG} {t : MT} {m : ME} {ρ : Rho} (I : List D → List D → S → Prop) {Q : List D → S → Prop} (hg : ∀ xs a s, I xs a s → gOk gd all s)
    (hc : ∀ x xs a s, I (x :: xs) a s → wp (g x ρ s) fun ρ1 s1 => wp (t ρ1 s1) fun k s2 => if k = true then wp (m ρ1 s2) fun d s3 => I xs (a ++ [d]) s3 else I xs a s2)
    (xs a : List D) (s : S) (h : I xs a s) (hn : ∀ a' s', I [] (a ++ a') s' → Q a' s') : wp (mapL gd all g t m xs ρ s) Q := by
  simp only [wp_eq, wS_eq, rtQ_eq, seqQ_eq, turnQ_eq, fzQ_eq] at hc ⊢
  exact Z.wp_mapL I hg hc xs a s h hn
theorem wp_mapN {all : List D} {g : MG} {t : MT} {m : ME} {ρ : Rho} (I : List D → List D → S → Prop) {Q : List D → S → Prop}
    (hc : ∀ x xs a s, I (x :: xs) a s → wp (g x ρ s) fun ρ1 s1 => wp (t ρ1 s1) fun k s2 => if k = true then wp (m ρ1 s2) fun d s3 => I xs (a ++ [d]) s3 else I xs a s2)
    (xs a : List D) (s : S) (h : I xs a s) (hn : ∀ a' s', I [] (a ++ a') s' → Q a' s') : wp (mapL none all g t m xs ρ s) Q := wp_mapL (gd := none) I (fun _ _ _ _ => trivial) hc xs a s h hn
end
section
variable {Q : D → S → Prop} {ρ : Rho} {s : S}
theorem wp_lc {it : MI} {g : MG} {t : MT} {m : ME} {own : List Nat} : wp (mLc it g t m own ρ s) Q = wp (it ρ s) fun p s1 => wp (mapL p.2 p.1 g t m p.1 (wipeD ρ own) s1) fun ds s2 => p.1.length ≤ sizeLine ∧ Q (.lst ds) s2 := by simp only [wp_eq, wS_eq, rtQ_eq, seqQ_eq, turnQ_eq, fzQ_eq]; exact Z.wp_lc
theorem wp_fn {n tot : Nat} {m : MS} {ds : List D} (h : ds.length = n) : wp (mkFn n tot m ds s) Q = wS (m (ds.map some ++ List.replicate (tot - n) none) s) (rtQ Q) := by simp only [wp_eq, wS_eq, rtQ_eq, seqQ_eq, turnQ_eq, fzQ_eq]; exact Z.wp_fn h
theorem wp_frz {n : Nat} {r : R D} (h : wp r (fzQ n Q)) : wp (frzR n r) Q := ⟨Z.wp_frz h.go⟩
theorem wp_mFz {m : ME} (h : wp (m ρ s) (fzQ s.length Q)) : wp (mFz m ρ s) Q := wp_frz h
theorem wp_mkFz {F : List D → S → R D} {ds : List D} (h : wp (F ds s) (fzQ s.length Q)) : wp (mkFz F ds s) Q := wp_frz h
theorem wp_make {c : Str} {G : List D → S → R D} {ms : MA} : wp (mMake c G ms ρ s) Q = wp (ms ρ s) fun ds s1 => wp (G (.ref s1.length :: ds) (s1 ++ [.ins c []])) fun d s2 => d = .non ∧ Q (.ref s1.length) s2 := by simp only [wp_eq, wS_eq, rtQ_eq, seqQ_eq, turnQ_eq, fzQ_eq]; exact Z.wp_make
theorem wp_m1 {f : D → S → R D} {a : ME} : wp (m1 f a ρ s) Q = wp (a ρ s) fun x s1 => wp (f x s1) Q := by simp only [wp_eq, wS_eq, rtQ_eq, seqQ_eq, turnQ_eq, fzQ_eq]; exact Z.wp_m1
theorem wp_m2 {f : D → D → S → R D} {a b : ME} : wp (m2 f a b ρ s) Q = wp (a ρ s) fun x s1 => wp (b ρ s1) fun y s2 => wp (f x y s2) Q := by simp only [wp_eq, wS_eq, rtQ_eq, seqQ_eq, turnQ_eq, fzQ_eq]; exact Z.wp_m2
theorem wp_mN {f : List D → S → R D} {a : MA} : wp (mN f a ρ s) Q = wp (a ρ s) fun x s1 => wp (f x s1) Q := by simp only [wp_eq, wS_eq, rtQ_eq, seqQ_eq, turnQ_eq, fzQ_eq]; exact Z.wp_mN
theorem wp_aNil {Q : List D → S → Prop} : wp (aNil ρ s) Q = Q [] s := by simp only [wp_eq, wS_eq, rtQ_eq, seqQ_eq, turnQ_eq, fzQ_eq]; exact Z.wp_aNil
theorem wp_aCons {a : ME} {r : MA} {Q : List D → S → Prop} : wp (aCons a r ρ s) Q = wp (a ρ s) fun x s1 => wp (r ρ s1) fun xs s2 => Q (x :: xs) s2 := by simp only [wp_eq, wS_eq, rtQ_eq, seqQ_eq, turnQ_eq, fzQ_eq]; exact Z.wp_aCons
theorem wp_mC {d : D} : wp (mC d ρ s) Q = Q d s := by simp only [wp_eq, wS_eq, rtQ_eq, seqQ_eq, turnQ_eq, fzQ_eq]; exact Z.wp_mC
theorem wp_var {i : Nat} : wp (mVar i ρ s) Q = match ρ[i]? with | some (some d) => Q d s | _ => False := by simp only [wp_eq, wS_eq, rtQ_eq, seqQ_eq, turnQ_eq, fzQ_eq]; exact Z.wp_var
theorem wp_if {c : MT} {a b : ME} : wp (mIf c a b ρ s) Q = wp (c ρ s) fun k s1 => if k = true then wp (a ρ s1) Q else wp (b ρ s1) Q := by simp only [wp_eq, wS_eq, rtQ_eq, seqQ_eq, turnQ_eq, fzQ_eq]; exact Z.wp_if
theorem wp_and {a b : ME} : wp (mAnd a b ρ s) Q = wp (a ρ s) fun d s1 => match d with | .bl true => wp (b ρ s1) Q | .bl false => Q (.bl false) s1 | _ => False := by simp only [wp_eq, wS_eq, rtQ_eq, seqQ_eq, turnQ_eq, fzQ_eq]; exact Z.wp_and
theorem wp_or {a b : ME} : wp (mOr a b ρ s) Q = wp (a ρ s) fun d s1 => match d with | .bl true => Q (.bl true) s1 | .bl false => wp (b ρ s1) Q | _ => False := by simp only [wp_eq, wS_eq, rtQ_eq, seqQ_eq, turnQ_eq, fzQ_eq]; exact Z.wp_or
theorem wp_not {a : ME} : wp (mNot a ρ s) Q = wp (a ρ s) fun d s1 => match d with | .bl b => Q (.bl (!b)) s1 | _ => False := by simp only [wp_eq, wS_eq, rtQ_eq, seqQ_eq, turnQ_eq, fzQ_eq]; exact Z.wp_not
theorem wp_chain {f g : D → D → S → R D} {a b c : ME} : wp (mChain f g a b c ρ s) Q = wp (a ρ s) fun x s1 => wp (b ρ s1) fun y s2 => wp (f x y s2) fun k s3 => match k with | .bl true => wp (c ρ s3) (fun z s4 => wp (g y z s4) Q) | .bl false => Q (.bl false) s3 | _ => False := by simp only [wp_eq, wS_eq, rtQ_eq, seqQ_eq, turnQ_eq, fzQ_eq]; exact Z.wp_chain
theorem wp_mt {T : String} {f : D → List D → S → R D} {a : ME} {as : MA} : wp (mMt T f a as ρ s) Q = wp (a ρ s) fun x s1 => hasTy T s1 x = true ∧ wp (as ρ s1) fun xs s2 => wp (f x xs s2) Q := by simp only [wp_eq, wS_eq, rtQ_eq, seqQ_eq, turnQ_eq, fzQ_eq]; exact Z.wp_mt
theorem wp_get {a b : ME} : wp (mGet a b ρ s) Q = wp (a ρ s) fun x s1 => match x with | .dic kvs => wp (b ρ s1) (fun y s2 => match y with | .str z => Q ((kvs.lookup z).getD .non) s2 | _ => False) | _ => False := by simp only [wp_eq, wS_eq, rtQ_eq, seqQ_eq, turnQ_eq, fzQ_eq]; exact Z.wp_get
theorem wp_isi {tys : List String} {a : ME} : wp (mIsi tys a ρ s) Q = wp (a ρ s) fun d s1 => match tyName s1 d with | some t => Q (.bl (tys.any (isSub t))) s1 | none => False := by simp only [wp_eq, wS_eq, rtQ_eq, seqQ_eq, turnQ_eq, fzQ_eq]; exact Z.wp_isi
theorem wp_fld {f : Str} {cs : List Str} {a : ME} : wp (mFld f cs a ρ s) Q = wp (a ρ s) fun d s1 => match insOf s1 d with | some (c, fs) => c ∈ cs ∧ (match fs.lookup f with | some v => Q v s1 | none => False) | none => False := by simp only [wp_eq, wS_eq, rtQ_eq, seqQ_eq, turnQ_eq, fzQ_eq]; exact Z.wp_fld
theorem wp_sl {m : ME} {lo hi : Rho → S → R (Option Int)} : wp (mSl m lo hi ρ s) Q = wp (m ρ s) fun d s1 => wp (lo ρ s1) fun l s2 => wp (hi ρ s2) fun h s3 => wp (dSl l h d s3) Q := by simp only [wp_eq, wS_eq, rtQ_eq, seqQ_eq, turnQ_eq, fzQ_eq]; exact Z.wp_sl
theorem wp_oNone {Q : Option Int → S → Prop} : wp (oNone ρ s) Q = Q none s := by simp only [wp_eq, wS_eq, rtQ_eq, seqQ_eq, turnQ_eq, fzQ_eq]; exact Z.wp_oNone
theorem wp_oSome {m : ME} {Q : Option Int → S → Prop} : wp (oSome m ρ s) Q = wp (m ρ s) fun d s1 => match d with | .int i => Q (some i) s1 | _ => False := by simp only [wp_eq, wS_eq, rtQ_eq, seqQ_eq, turnQ_eq, fzQ_eq]; exact Z.wp_oSome
variable {Q' : Bool → S → Prop}
theorem wp_tBool {a : ME} : wp (tBool a ρ s) Q' = wp (a ρ s) fun d s1 => match d with | .bl b => Q' b s1 | _ => False := by simp only [wp_eq, wS_eq, rtQ_eq, seqQ_eq, turnQ_eq, fzQ_eq]; exact Z.wp_tBool
theorem wp_tTru {f : D → S → Option Bool} {a : ME} : wp (tTru f a ρ s) Q' = wp (a ρ s) fun d s1 => match f d s1 with | some b => Q' b s1 | none => False := by simp only [wp_eq, wS_eq, rtQ_eq, seqQ_eq, turnQ_eq, fzQ_eq]; exact Z.wp_tTru
theorem wp_tNot {a : MT} : wp (tNot1 a ρ s) Q' = wp (a ρ s) fun k s1 => Q' (!k) s1 := by simp only [wp_eq, wS_eq, rtQ_eq, seqQ_eq, turnQ_eq, fzQ_eq]; exact Z.wp_tNot
theorem wp_tAnd {a b : MT} : wp (tAnd2 a b ρ s) Q' = wp (a ρ s) fun k s1 => if k = true then wp (b ρ s1) Q' else Q' false s1 := by simp only [wp_eq, wS_eq, rtQ_eq, seqQ_eq, turnQ_eq, fzQ_eq]; exact Z.wp_tAnd
theorem wp_tOr {a b : MT} : wp (tOr2 a b ρ s) Q' = wp (a ρ s) fun k s1 => if k = true then Q' true s1 else wp (b ρ s1) Q' := by simp only [wp_eq, wS_eq, rtQ_eq, seqQ_eq, turnQ_eq, fzQ_eq]; exact Z.wp_tOr
theorem wp_tAll : wp (tAll ρ s) Q' = Q' true s := by simp only [wp_eq, wS_eq, rtQ_eq, seqQ_eq, turnQ_eq, fzQ_eq]; exact Z.wp_tAll
theorem wp_gSlot {i : Nat} {d : D} {Q : Rho → S → Prop} : wp (gSlot i d ρ s) Q = Q (ρ.set i (some d)) s := by simp only [wp_eq, wS_eq, rtQ_eq, seqQ_eq, turnQ_eq, fzQ_eq]; exact Z.wp_gSlot
theorem wp_gsNil {Q : Rho → S → Prop} : wp (gsNil [] ρ s) Q = Q ρ s := by simp only [wp_eq, wS_eq, rtQ_eq, seqQ_eq, turnQ_eq, fzQ_eq]; exact Z.wp_gsNil
theorem wp_gsCons {g : MG} {r : MGs} {d : D} {ds : List D} {Q : Rho → S → Prop} : wp (gsCons g r (d :: ds) ρ s) Q = wp (g d ρ s) fun ρ1 s1 => wp (r ds ρ1 s1) Q := by simp only [wp_eq, wS_eq, rtQ_eq, seqQ_eq, turnQ_eq, fzQ_eq]; exact Z.wp_gsCons
theorem wp_gTup {n : Nat} {r : MGs} {d : D} {Q : Rho → S → Prop} : wp (gTupD n r d ρ s) Q = match d with | .tup ds => ds.length = n ∧ wp (r ds ρ s) Q | _ => False := by simp only [wp_eq, wS_eq, rtQ_eq, seqQ_eq, turnQ_eq, fzQ_eq]; exact Z.wp_gTup
theorem wp_gSub {o i : ME} {v : D} {Q : Rho → S → Prop} : wp (gSubD o i v ρ s) Q = wp (o ρ s) fun x s1 => wp (i ρ s1) fun y s2 => match dStore x y v s2 with | some s3 => Q ρ s3 | none => False := by simp only [wp_eq, wS_eq, rtQ_eq, seqQ_eq, turnQ_eq, fzQ_eq]; exact Z.wp_gSub
variable {QI : List D × Option Nat → S → Prop}
theorem wp_iSeq {m : ME} : wp (iSeq m ρ s) QI = wp (m ρ s) fun d s1 => match d with | .lst xs => QI (xs, none) s1 | .ref n => (match s1[n]? with | some (.lst xs) => QI (xs, some n) s1 | _ => False) | _ => False := by simp only [wp_eq, wS_eq, rtQ_eq, seqQ_eq, turnQ_eq, fzQ_eq]; exact Z.wp_iSeq
theorem wp_iAny {m : ME} : wp (iAny m ρ s) QI = wp (m ρ s) fun d s1 => match d with | .lst xs => QI (xs, none) s1 | .tup xs => QI (xs, none) s1 | .str x => QI (x.cps.toList.map fun c => .str ⟨#[c]⟩, none) s1 | .ref n => (match s1[n]? with | some (.lst xs) => QI (xs, some n) s1 | _ => False) | _ => False := by simp only [wp_eq, wS_eq, rtQ_eq, seqQ_eq, turnQ_eq, fzQ_eq]; exact Z.wp_iAny
theorem wp_iTup {m : ME} : wp (iTupD m ρ s) QI = wp (m ρ s) fun d s1 => match d with | .tup xs => QI (xs, none) s1 | _ => False := by simp only [wp_eq, wS_eq, rtQ_eq, seqQ_eq, turnQ_eq, fzQ_eq]; exact Z.wp_iTup
theorem wp_iStr {m : ME} : wp (iStrD m ρ s) QI = wp (m ρ s) fun d s1 => match d with | .str x => QI (x.cps.toList.map fun c => .str ⟨#[c]⟩, none) s1 | _ => False := by simp only [wp_eq, wS_eq, rtQ_eq, seqQ_eq, turnQ_eq, fzQ_eq]; exact Z.wp_iStr
theorem wp_iRange1 {m : ME} : wp (iRange1 m ρ s) QI = wp (m ρ s) fun d s1 => match d with | .int j => (-(2 ^ 62) ≤ j ∧ j < 2 ^ 62) ∧ QI (rng 0 j.toNat, none) s1 | _ => False := by simp only [wp_eq, wS_eq, rtQ_eq, seqQ_eq, turnQ_eq, fzQ_eq]; exact Z.wp_iRange1
theorem wp_iRange2 {a b : ME} : wp (iRange2 a b ρ s) QI = wp (a ρ s) fun d s1 => wp (b ρ s1) fun e s2 => match d, e with | .int i, .int j => (-(2 ^ 62) ≤ i ∧ i < 2 ^ 62 ∧ -(2 ^ 62) ≤ j ∧ j < 2 ^ 62) ∧ QI (rng i (j - i).toNat, none) s2 | _, _ => False := by simp only [wp_eq, wS_eq, rtQ_eq, seqQ_eq, turnQ_eq, fzQ_eq]; exact Z.wp_iRange2
theorem wp_iZip {a b : ME} : wp (iZipD a b ρ s) QI = wp (a ρ s) fun d s1 => wp (b ρ s1) fun e s2 => match fview d, fview e with | some xs, some ys => QI (zipD xs ys, none) s2 | _, _ => False := by simp only [wp_eq, wS_eq, rtQ_eq, seqQ_eq, turnQ_eq, fzQ_eq]; exact Z.wp_iZip
theorem wS_fld {f : Str} {cs : List Str} {mo mv : ME} {Q : C → S → Prop} : wS (sFldD f cs mo mv ρ s) Q = wp (mv ρ s) fun v s1 => wp (mo ρ s1) fun d s2 => match d with
    | .ref n => (match s2[n]? with | some (.ins c fs) => (c ∈ cs ∧ fs.length < 1000) ∧ Q (.nx ρ) (s2.set n (.ins c (putFD f v fs))) | _ => False)
    | _ => False := by simp only [wp_eq, wS_eq, rtQ_eq, seqQ_eq, turnQ_eq, fzQ_eq]; exact Z.wS_fld
end

def cutQ (n : Nat) (Q : C → S → Prop) : C → S → Prop
  | .nx ρ, s => stOk n s = true ∧ Q (.nx (cutRho n ρ)) (s.take n)
  | .ct ρ, s => stOk n s = true ∧ Q (.ct (cutRho n ρ)) (s.take n)
  | .bk ρ, s => stOk n s = true ∧ Q (.bk (cutRho n ρ)) (s.take n)
  | .rt d, s => Q (.rt d) s
theorem cutQ_eq : cutQ = Z.cutQ := by
  funext n Q c s
  cases c <;> rfl
theorem wS_cut {m : MS} {ρ : Rho} {s : S} {Q : C → S → Prop} : wS (sCut m ρ s) Q = wS (m ρ s) (cutQ s.length Q) := by simp only [wp_eq, wS_eq, cutQ_eq]; exact Z.wS_cut
end Pm
namespace Pm
open PySem PySem.Spec PyProof.Rows L2

/-! ### operators on written-out data -/
section
variable {Q : D → S → Prop} {s : S} {a b : Int} {x y : Str}
theorem wp_ifb {p : Prop} [Decidable p] {r : R D} : wp (if p then r else .bad) Q = (p ∧ wp r Q) := by
  by_cases h : p
  · rw [if_pos h]; simp [h]
  · rw [if_neg h]; simp [h, wp_bad]
theorem wp_ifb' {p : Prop} [Decidable p] {d : D} {s : S} : wp (if p then R.ok d s else .bad) Q = (p ∧ Q d s) := by rw [wp_ifb, wp_ok]
theorem lview_ref {n : Nat} {xs : List D} (h : s[n]? = some (.lst xs)) : lview s (.ref n) = some xs := by
  show (match s[n]? with | some (.lst xs) => some xs | _ => none) = some xs
  rw [h]
theorem w_add : wp (dAdd (.int a) (.int b) s) Q = Q (.int (a + b)) s := wp_ok
theorem w_iadd : wp (dIAdd (.int a) (.int b) s) Q = Q (.int (a + b)) s := wp_ok
theorem w_iaddS : wp (dIAdd (.str x) (.str y) s) Q = (x.length + y.length ≤ sizeLine ∧ Q (.str (x ++ y)) s) := wp_ifb'
theorem w_addS : wp (dAdd (.str x) (.str y) s) Q = (x.length + y.length ≤ sizeLine ∧ Q (.str (x ++ y)) s) := wp_ifb'
theorem w_addL {xs ys : List D} : wp (dAdd (.lst xs) (.lst ys) s) Q = (xs.length + ys.length ≤ sizeLine ∧ Q (.lst (xs ++ ys)) s) := wp_ifb'
theorem w_addT {xs ys : List D} : wp (dAdd (.tup xs) (.tup ys) s) Q = (xs.length + ys.length ≤ sizeLine ∧ Q (.tup (xs ++ ys)) s) := wp_ifb'
theorem w_sub : wp (dSub (.int a) (.int b) s) Q = Q (.int (a - b)) s := wp_ok
theorem w_mul : wp (dMul (.int a) (.int b) s) Q = (iBits a + iBits b ≤ 134217728 ∧ Q (.int (a * b)) s) := wp_ifb'
theorem w_mod : wp (dMod (.int a) (.int b) s) Q = (0 < b ∧ Q (.int (a % b)) s) := wp_ifb'
theorem w_fdiv : wp (dFdiv (.int a) (.int b) s) Q = ((0 < b ∧ b.natAbs.log2 < 9000) ∧ Q (.int (a / b)) s) := wp_ifb'
theorem w_pow : wp (dPow (.int a) (.int b) s) Q = ((0 ≤ b ∧ b ≤ 1000000 ∧ a.natAbs < 2 ^ 64) ∧ Q (.int (a ^ b.toNat)) s) := wp_ifb'
theorem w_neg : wp (dNeg (.int a) s) Q = Q (.int (-a)) s := wp_ok
theorem w_lt : wp (dLt (.int a) (.int b) s) Q = Q (.bl (decide (a < b))) s := wp_ok
theorem w_le : wp (dLe (.int a) (.int b) s) Q = Q (.bl (decide (a ≤ b))) s := wp_ok
theorem w_gt : wp (dGt (.int a) (.int b) s) Q = Q (.bl (decide (a > b))) s := wp_ok
theorem w_ge : wp (dGe (.int a) (.int b) s) Q = Q (.bl (decide (a ≥ b))) s := wp_ok
theorem w_eqI : wp (dEq (.int a) (.int b) s) Q = Q (.bl (a == b)) s := wp_ok
theorem w_neI : wp (dNe (.int a) (.int b) s) Q = Q (.bl (!(a == b))) s := wp_ok
theorem w_eqS (hx : PyData.strOk x = true) (hy : PyData.strOk y = true) : wp (dEq (.str x) (.str y) s) Q = Q (.bl (x == y)) s := by
  unfold dEq toPy
  rw [if_pos hx, if_pos hy]
  exact wp_ok
theorem w_neS (hx : PyData.strOk x = true) (hy : PyData.strOk y = true) : wp (dNe (.str x) (.str y) s) Q = Q (.bl (!(x == y))) s := by
  unfold dNe toPy
  rw [if_pos hx, if_pos hy]
  exact wp_ok
theorem eq_self {d : D} {p : PyData} (h : toPy s 60 d = some p) : dEq d d s = .ok (.bl true) s := by
  unfold dEq
  rw [h]
  simp only
  rw [PySem.SeqAt.eqv_refl p (toPy_lay 60 d p h).1]
theorem ne_self {d : D} {p : PyData} (h : toPy s 60 d = some p) : dNe d d s = .ok (.bl false) s := by
  unfold dNe
  rw [h]
  simp only
  rw [PySem.SeqAt.eqv_refl p (toPy_lay 60 d p h).1]
  rfl
theorem w_isN {d : D} : wp (dIs d .non s) Q = Q (.bl (isNonD d)) s := by cases d <;> exact wp_ok
theorem w_isnotN {d : D} : wp (dIsNot d .non s) Q = Q (.bl (!isNonD d)) s := by cases d <;> exact wp_ok
theorem w_isB {k j : Bool} : wp (dIs (.bl k) (.bl j) s) Q = Q (.bl (k == j)) s := wp_ok
theorem w_isNB {j : Bool} : wp (dIs .non (.bl j) s) Q = Q (.bl false) s := wp_ok
theorem w_len {xs : List D} : wp (dLen [.lst xs] s) Q = Q (.int xs.length) s := wp_ok
theorem w_lenT {xs : List D} : wp (dLen [.tup xs] s) Q = Q (.int xs.length) s := wp_ok
theorem w_lenS : wp (dLen [.str x] s) Q = (x.length ≤ sizeLine ∧ Q (.int x.length) s) := wp_ifb'
theorem w_lenR {n : Nat} {xs : List D} (h : s[n]? = some (.lst xs)) : wp (dLen [.ref n] s) Q = Q (.int xs.length) s := by
  show wp (match lview s (.ref n) with | some xs => R.ok (.int xs.length) s | none => .bad) Q = _
  rw [lview_ref h]
  exact wp_ok
theorem w_int : wp (dInt [.int a] s) Q = Q (.int a) s := wp_ok
theorem w_intB {k : Bool} : wp (dInt [.bl k] s) Q = Q (.int (if k then 1 else 0)) s := wp_ok
theorem w_abs : wp (dAbs [.int a] s) Q = Q (.int (if a < 0 then -a else a)) s := wp_ok
theorem w_min : wp (dMin2 [.int a, .int b] s) Q = Q (.int (if b < a then b else a)) s := wp_ok
theorem w_max : wp (dMax2 [.int a, .int b] s) Q = Q (.int (if b > a then b else a)) s := wp_ok
theorem w_tup {ds : List D} : wp (dTup ds s) Q = (ds.length ≤ sizeLine ∧ Q (.tup ds) s) := wp_ifb'
theorem w_lst {ds : List D} : wp (dLst ds s) Q = (ds.length ≤ sizeLine ∧ Q (.lst ds) s) := wp_ifb'
theorem w_new {ds : List D} : wp (dNew ds s) Q = (ds.length ≤ sizeLine ∧ Q (.ref s.length) (s ++ [.lst ds])) := wp_ifb'
theorem w_list {xs : List D} : wp (dList false [.lst xs] s) Q = Q (.lst xs) s := wp_ok
theorem w_listR {n : Nat} {xs : List D} (h : s[n]? = some (.lst xs)) : wp (dList false [.ref n] s) Q = Q (.lst xs) s := by
  show wp (match sview s (.ref n) with | some xs => (if false = true then R.ok (.ref s.length) (s ++ [.lst xs]) else .ok (.lst xs) s) | none => .bad) Q = _
  rw [show sview s (.ref n) = lview s (.ref n) from rfl, lview_ref h]
  exact wp_ok
theorem w_listN {xs : List D} : wp (dList true [.lst xs] s) Q = Q (.ref s.length) (s ++ [.lst xs]) := wp_ok
theorem w_append {n : Nat} {xs : List D} {d : D} (h : s[n]? = some (.lst xs)) : wp (dAppend (.ref n) [d] s) Q = (xs.length < sizeLine ∧ Q .non (s.set n (.lst (xs ++ [d])))) := by
  unfold dAppend
  simp only [h]
  exact wp_ifb'
theorem w_reverse {n : Nat} {xs : List D} (h : s[n]? = some (.lst xs)) : wp (dReverse (.ref n) [] s) Q = Q .non (s.set n (.lst xs.reverse)) := by
  unfold dReverse
  simp only [h]
  exact wp_ok
theorem hasTy_list {xs : List D} : hasTy "list" s (.lst xs) = true := rfl
theorem hasTy_ref {n : Nat} {xs : List D} (h : s[n]? = some (.lst xs)) : hasTy "list" s (.ref n) = true := by
  show (lview s (.ref n)).isSome = true
  rw [lview_ref h]
  rfl
theorem hasTy_str : hasTy "str" s (.str x) = true := rfl
/-! places: the item by its index, whichever it is -/
theorem atI_nat {α : Type} {xs : List α} {i : Int} {n : Nat} (h : i = n) : atI xs i = xs[n]? := by
  subst h
  unfold atI ixN
  by_cases hl : (n : Int) < xs.length
  · rw [if_pos (by omega), if_pos hl]; simp
  · rw [if_pos (by omega), if_neg hl, List.getElem?_eq_none (by omega)]; rfl
theorem atI_mem {α : Type} {xs : List α} {i : Int} (h0 : 0 ≤ i) (h1 : i < xs.length) : ∃ x ∈ xs, atI xs i = some x ∧ xs[i.toNat]? = some x := by
  have e : i = (i.toNat : Nat) := by omega
  have hl : i.toNat < xs.length := by omega
  refine ⟨xs[i.toNat], List.getElem_mem hl, ?_, List.getElem?_eq_getElem hl⟩
  rw [atI_nat e, List.getElem?_eq_getElem hl]
theorem at_0 {α : Type} {x0 : α} {xs : List α} : atI (x0 :: xs) 0 = some x0 := (atI_nat (i := 0) (n := 0) rfl).trans rfl
theorem at_1 {α : Type} {x0 x1 : α} {xs : List α} : atI (x0 :: x1 :: xs) 1 = some x1 := (atI_nat (i := 1) (n := 1) rfl).trans rfl
theorem at_2 {α : Type} {x0 x1 x2 : α} {xs : List α} : atI (x0 :: x1 :: x2 :: xs) 2 = some x2 := (atI_nat (i := 2) (n := 2) rfl).trans rfl
theorem at_3 {α : Type} {x0 x1 x2 x3 : α} {xs : List α} : atI (x0 :: x1 :: x2 :: x3 :: xs) 3 = some x3 := (atI_nat (i := 3) (n := 3) rfl).trans rfl
theorem at_4 {α : Type} {x0 x1 x2 x3 x4 : α} {xs : List α} : atI (x0 :: x1 :: x2 :: x3 :: x4 :: xs) 4 = some x4 := (atI_nat (i := 4) (n := 4) rfl).trans rfl
theorem at_5 {α : Type} {x0 x1 x2 x3 x4 x5 : α} {xs : List α} : atI (x0 :: x1 :: x2 :: x3 :: x4 :: x5 :: xs) 5 = some x5 := (atI_nat (i := 5) (n := 5) rfl).trans rfl
theorem w_ix {xs : List D} {i : Int} : wp (dIx (.lst xs) (.int i) s) Q = match atI xs i with | some d => Q d s | none => False := by
  show wp (match lview s (.lst xs) with | some xs => (match atI xs i with | some d => R.ok d s | none => .bad) | none => .bad) Q = _
  unfold lview
  simp only
  cases atI xs i <;> first | exact wp_ok | exact wp_bad
theorem w_ixT {xs : List D} {i : Int} : wp (dIx (.tup xs) (.int i) s) Q = match atI xs i with | some d => Q d s | none => False := by
  unfold dIx
  simp only
  cases atI xs i <;> first | exact wp_ok | exact wp_bad
theorem w_ixR {n : Nat} {xs : List D} {i : Int} (h : s[n]? = some (.lst xs)) : wp (dIx (.ref n) (.int i) s) Q = match atI xs i with | some d => Q d s | none => False := by
  show wp (match lview s (.ref n) with | some xs => (match atI xs i with | some d => R.ok d s | none => .bad) | none => .bad) Q = _
  rw [lview_ref h]
  simp only
  cases atI xs i <;> first | exact wp_ok | exact wp_bad
theorem w_sl1 {d : D} {xs : List D} : wp (dSl (some 1) none (.tup (d :: xs)) s) Q = Q (.tup xs) s := by
  have e : dCut (d :: xs) (some 1) none = xs := by
    unfold dCut
    rw [show HT.sIx (d :: xs).length 0 (some 1) = min 1 (d :: xs).length from HT.sIx_nat _ _ 1, HT.sIx_none]
    simp
  show wp (R.ok (.tup (dCut (d :: xs) (some 1) none)) s) Q = _
  rw [e, wp_ok]
theorem w_ixD {kvs : List (Str × D)} {z : Str} : wp (dIx (.dic kvs) (.str z) s) Q = match kvs.lookup z with | some d => Q d s | none => False := by
  unfold dIx
  simp only
  cases kvs.lookup z <;> first | exact wp_ok | exact wp_bad
/-- an item at a place that is within -/
theorem ix_any {xs : List D} {i : Int} (h0 : 0 ≤ i) (h1 : i < xs.length) (h : ∀ d ∈ xs, Q d s) : wp (dIx (.lst xs) (.int i) s) Q := by
  obtain ⟨d, hd, e, _⟩ := atI_mem h0 h1
  rw [w_ix, e]
  exact h d hd
theorem w_store {n : Nat} {xs : List D} {k : Int} {v : D} (h : s[n]? = some (.lst xs)) (h0 : 0 ≤ k) (h1 : k < xs.length) : dStore (.ref n) (.int k) v s = some (s.set n (.lst (xs.set k.toNat v))) := by
  unfold dStore
  simp only [h]
  have e : ixN xs.length k = some k.toNat := by
    unfold ixN
    rw [if_pos h0, if_pos h1]
  rw [e]
theorem w_inL {xs : List D} {d : D} (f : flatD d = true) (g : xs.all flatD = true) : wp (dIn d (.lst xs) s) Q = Q (.bl (xs.any fun z => sEq z d)) s := by
  have e : dMem d (.lst xs) s = some (xs.any fun z => sEq z d) := by
    cases d <;> first
      | (simp only [flatD] at f; cases f; done)
      | (simp only [dMem, lview, f, g]; simp)
  unfold dIn
  rw [e]
  exact wp_ok
end
/-! texts that are written out -/
theorem str_beq (x y : String) : (Str.ofString x == Str.ofString y) = (x == y) := by
  rw [Bool.eq_iff_iff]
  constructor
  · intro h
    have e := beq_iff_eq.mp h
    rw [Str.ofString_eq_toList, Str.ofString_eq_toList] at e
    have e2 : x.toList.map Char.toNat = y.toList.map Char.toNat := by
      have := congrArg (fun z : Str => z.cps.toList) e
      simpa using this
    have inj : ∀ a b : Char, a.toNat = b.toNat → a = b := fun a b h => Char.ext (UInt32.toNat.inj h)
    have e3 : x.toList = y.toList := List.map_inj_right (fun a b h => inj a b h) |>.mp e2
    exact beq_iff_eq.mpr (String.toList_inj.mp e3)
  · intro h
    exact beq_iff_eq.mpr (congrArg _ (beq_iff_eq.mp h))
theorem strOk_of (x : String) : PyData.strOk (Str.ofString x) = true := by
  rw [Str.ofString_eq_toList]
  unfold PyData.strOk
  rw [← Array.all_toList, List.all_eq_true]
  intro c hc
  obtain ⟨d, _, rfl⟩ := List.mem_map.mp (by simpa using hc)
  have h := d.valid
  have : d.toNat < 0x110000 := by
    rcases h with h | h
    · exact Nat.lt_trans h (by decide)
    · exact h.2
  exact decide_eq_true this
section
variable {Q : D → S → Prop} {s : S} {x y : String}
theorem w_eqT : wp (dEq (.str (Str.ofString x)) (.str (Str.ofString y)) s) Q = Q (.bl (x == y)) s := by rw [w_eqS (strOk_of x) (strOk_of y), str_beq]
theorem w_neT : wp (dNe (.str (Str.ofString x)) (.str (Str.ofString y)) s) Q = Q (.bl (!(x == y))) s := by rw [w_neS (strOk_of x) (strOk_of y), str_beq]
theorem sEq_T : sEq (.str (Str.ofString x)) (.str (Str.ofString y)) = (x == y) := str_beq x y
theorem w_inTs {xs : List String} {z : String} : wp (dIn (.str (Str.ofString z)) (.lst (xs.map fun x => .str (Str.ofString x))) s) Q = Q (.bl (xs.any fun x => x == z)) s := by
  have e : (xs.map fun x => D.str (Str.ofString x)).all flatD = true := by
    rw [List.all_map]; exact List.all_eq_true.mpr fun _ _ => rfl
  rw [w_inL rfl e, List.any_map]
  congr 3
  funext x
  exact sEq_T
theorem w_notinTs {xs : List String} {z : String} : wp (dNotIn (.str (Str.ofString z)) (.lst (xs.map fun x => .str (Str.ofString x))) s) Q = Q (.bl (!xs.any fun x => x == z)) s := by
  have e : (xs.map fun x => D.str (Str.ofString x)).all flatD = true := by
    rw [List.all_map]; exact List.all_eq_true.mpr fun _ _ => rfl
  have e2 : dMem (.str (Str.ofString z)) (.lst (xs.map fun x => .str (Str.ofString x))) s = some ((xs.map fun x => D.str (Str.ofString x)).any fun y => sEq y (.str (Str.ofString z))) := by
    simp only [dMem, lview, flatD, e]; simp
  unfold dNotIn
  rw [e2, List.any_map]
  refine wp_ok.trans ?_
  congr 4
  funext x
  exact sEq_T
theorem w_inT1 {x0 z : String} : wp (dIn (.str (Str.ofString z)) (.lst [.str (Str.ofString x0)]) s) Q = Q (.bl ((x0 == z || false))) s := w_inTs (xs := [x0])
theorem w_notinT1 {x0 z : String} : wp (dNotIn (.str (Str.ofString z)) (.lst [.str (Str.ofString x0)]) s) Q = Q (.bl (!(x0 == z || false))) s := w_notinTs (xs := [x0])
theorem w_inT2 {x0 x1 z : String} : wp (dIn (.str (Str.ofString z)) (.lst [.str (Str.ofString x0), .str (Str.ofString x1)]) s) Q = Q (.bl ((x0 == z || (x1 == z || false)))) s := w_inTs (xs := [x0, x1])
theorem w_notinT2 {x0 x1 z : String} : wp (dNotIn (.str (Str.ofString z)) (.lst [.str (Str.ofString x0), .str (Str.ofString x1)]) s) Q = Q (.bl (!(x0 == z || (x1 == z || false)))) s := w_notinTs (xs := [x0, x1])
theorem w_inT3 {x0 x1 x2 z : String} : wp (dIn (.str (Str.ofString z)) (.lst [.str (Str.ofString x0), .str (Str.ofString x1), .str (Str.ofString x2)]) s) Q = Q (.bl ((x0 == z || (x1 == z || (x2 == z || false))))) s := w_inTs (xs := [x0, x1, x2])
theorem w_notinT3 {x0 x1 x2 z : String} : wp (dNotIn (.str (Str.ofString z)) (.lst [.str (Str.ofString x0), .str (Str.ofString x1), .str (Str.ofString x2)]) s) Q = Q (.bl (!(x0 == z || (x1 == z || (x2 == z || false))))) s := w_notinTs (xs := [x0, x1, x2])
theorem w_inT4 {x0 x1 x2 x3 z : String} : wp (dIn (.str (Str.ofString z)) (.lst [.str (Str.ofString x0), .str (Str.ofString x1), .str (Str.ofString x2), .str (Str.ofString x3)]) s) Q = Q (.bl ((x0 == z || (x1 == z || (x2 == z || (x3 == z || false)))))) s := w_inTs (xs := [x0, x1, x2, x3])
theorem w_notinT4 {x0 x1 x2 x3 z : String} : wp (dNotIn (.str (Str.ofString z)) (.lst [.str (Str.ofString x0), .str (Str.ofString x1), .str (Str.ofString x2), .str (Str.ofString x3)]) s) Q = Q (.bl (!(x0 == z || (x1 == z || (x2 == z || (x3 == z || false)))))) s := w_notinTs (xs := [x0, x1, x2, x3])
theorem w_inT5 {x0 x1 x2 x3 x4 z : String} : wp (dIn (.str (Str.ofString z)) (.lst [.str (Str.ofString x0), .str (Str.ofString x1), .str (Str.ofString x2), .str (Str.ofString x3), .str (Str.ofString x4)]) s) Q = Q (.bl ((x0 == z || (x1 == z || (x2 == z || (x3 == z || (x4 == z || false))))))) s := w_inTs (xs := [x0, x1, x2, x3, x4])
theorem w_notinT5 {x0 x1 x2 x3 x4 z : String} : wp (dNotIn (.str (Str.ofString z)) (.lst [.str (Str.ofString x0), .str (Str.ofString x1), .str (Str.ofString x2), .str (Str.ofString x3), .str (Str.ofString x4)]) s) Q = Q (.bl (!(x0 == z || (x1 == z || (x2 == z || (x3 == z || (x4 == z || false))))))) s := w_notinTs (xs := [x0, x1, x2, x3, x4])
theorem w_inT6 {x0 x1 x2 x3 x4 x5 z : String} : wp (dIn (.str (Str.ofString z)) (.lst [.str (Str.ofString x0), .str (Str.ofString x1), .str (Str.ofString x2), .str (Str.ofString x3), .str (Str.ofString x4), .str (Str.ofString x5)]) s) Q = Q (.bl ((x0 == z || (x1 == z || (x2 == z || (x3 == z || (x4 == z || (x5 == z || false)))))))) s := w_inTs (xs := [x0, x1, x2, x3, x4, x5])
theorem w_notinT6 {x0 x1 x2 x3 x4 x5 z : String} : wp (dNotIn (.str (Str.ofString z)) (.lst [.str (Str.ofString x0), .str (Str.ofString x1), .str (Str.ofString x2), .str (Str.ofString x3), .str (Str.ofString x4), .str (Str.ofString x5)]) s) Q = Q (.bl (!(x0 == z || (x1 == z || (x2 == z || (x3 == z || (x4 == z || (x5 == z || false)))))))) s := w_notinTs (xs := [x0, x1, x2, x3, x4, x5])
theorem w_inT7 {x0 x1 x2 x3 x4 x5 x6 z : String} : wp (dIn (.str (Str.ofString z)) (.lst [.str (Str.ofString x0), .str (Str.ofString x1), .str (Str.ofString x2), .str (Str.ofString x3), .str (Str.ofString x4), .str (Str.ofString x5), .str (Str.ofString x6)]) s) Q = Q (.bl ((x0 == z || (x1 == z || (x2 == z || (x3 == z || (x4 == z || (x5 == z || (x6 == z || false))))))))) s := w_inTs (xs := [x0, x1, x2, x3, x4, x5, x6])
theorem w_notinT7 {x0 x1 x2 x3 x4 x5 x6 z : String} : wp (dNotIn (.str (Str.ofString z)) (.lst [.str (Str.ofString x0), .str (Str.ofString x1), .str (Str.ofString x2), .str (Str.ofString x3), .str (Str.ofString x4), .str (Str.ofString x5), .str (Str.ofString x6)]) s) Q = Q (.bl (!(x0 == z || (x1 == z || (x2 == z || (x3 == z || (x4 == z || (x5 == z || (x6 == z || false))))))))) s := w_notinTs (xs := [x0, x1, x2, x3, x4, x5, x6])
theorem w_inT8 {x0 x1 x2 x3 x4 x5 x6 x7 z : String} : wp (dIn (.str (Str.ofString z)) (.lst [.str (Str.ofString x0), .str (Str.ofString x1), .str (Str.ofString x2), .str (Str.ofString x3), .str (Str.ofString x4), .str (Str.ofString x5), .str (Str.ofString x6), .str (Str.ofString x7)]) s) Q = Q (.bl ((x0 == z || (x1 == z || (x2 == z || (x3 == z || (x4 == z || (x5 == z || (x6 == z || (x7 == z || false)))))))))) s := w_inTs (xs := [x0, x1, x2, x3, x4, x5, x6, x7])
theorem w_notinT8 {x0 x1 x2 x3 x4 x5 x6 x7 z : String} : wp (dNotIn (.str (Str.ofString z)) (.lst [.str (Str.ofString x0), .str (Str.ofString x1), .str (Str.ofString x2), .str (Str.ofString x3), .str (Str.ofString x4), .str (Str.ofString x5), .str (Str.ofString x6), .str (Str.ofString x7)]) s) Q = Q (.bl (!(x0 == z || (x1 == z || (x2 == z || (x3 == z || (x4 == z || (x5 == z || (x6 == z || (x7 == z || false)))))))))) s := w_notinTs (xs := [x0, x1, x2, x3, x4, x5, x6, x7])
end
theorem small_bits {a : Int} {k : Nat} (h : a.natAbs < 2 ^ k) : iBits a ≤ k := Int.ofNat_le.mpr (intBits_le_iff.mpr h)
theorem line_of {n : Nat} (h : n ≤ 1000000) : n ≤ sizeLine := Nat.le_trans h (by decide)
theorem line_eq : sizeLine = 16777216 := by decide
end Pm
namespace Pm
open PySem PySem.Spec PyProof.Rows L2
noncomputable section
/-! ### the helpers that all laws share: the deck, a card, what a datum is told as -/
def g_deck_m : MS := (ssCons (sSet 3 (mN dNew aNil))
  (ssCons (sSet 4 (m2 dAdd (mC (.int 7)) (mN dLen (aCons (mVar 0) aNil))))
  (ssCons (sFor (iRange1 (mVar 1)) (gSlot 5)
  (ssCons (sSet 6 (mC (.int 0)))
  (ssCons (sIf (tBool (m2 dLt (mVar 5) (mN dLen (aCons (mVar 0) aNil))))
  (sSet 6 (m2 dIx (mVar 0) (mVar 5)))
  ssNil)
  (ssCons (sSet 7 (mN dAbs (aCons (mVar 6) aNil)))
  (sIf (tBool (m2 dGe (mVar 7) (m2 dPow (mC (.int 10)) (mC (.int 30)))))
  (sFor (iRange1 (mVar 2)) (gSlot 8)
  (ssCons (sExpr (mMt "list" dAppend (mVar 3) (aCons (m2 dMod (mN dInt (aCons (mVar 7) aNil)) (mC (.int 1000003))) aNil)))
  (sSet 7 (m2 dFdiv (mVar 7) (mC (.int 1000003))))))
  (ssCons (sSet 4 (m2 dMod (mN dInt (aCons (m2 dAdd (m2 dAdd (m2 dAdd (m2 dMul (mVar 4) (mC (.int 48271))) (m2 dMul (mC (.int 2)) (mVar 7))) (mN dInt (aCons (m2 dLt (mVar 6) (mC (.int 0))) aNil))) (mVar 5)) aNil)) (mC (.int 2147483647))))
  (sFor (iRange1 (mVar 2)) (gSlot 8)
  (ssCons (sSet 4 (m2 dMod (mN dInt (aCons (m2 dAdd (m2 dAdd (m2 dMul (mVar 4) (mC (.int 69621))) (mVar 8)) (mC (.int 1))) aNil)) (mC (.int 2147483629))))
  (sExpr (mMt "list" dAppend (mVar 3) (aCons (m2 dMod (mN dInt (aCons (m2 dFdiv (mVar 4) (mC (.int 5))) aNil)) (mC (.int 1000003))) aNil)))))))))))
  (ssCons (sExpr (mMt "list" dReverse (mVar 3) aNil))
  (sRet (mVar 3))))))
def g_deck : List D → S → R D := mkFn 3 9 g_deck_m
def g_take_m : MS := (ssCons (sIf (tBool (m2 dEq (mN dLen (aCons (mVar 0) aNil)) (mC (.int 0))))
  (sRet (mC (.int 0)))
  ssNil)
  (sRet (m2 dMod (mN dInt (aCons (mMt "list" dPop (mVar 0) aNil) aNil)) (mVar 1))))
def g_take : List D → S → R D := mkFn 2 2 g_take_m
def g_plain_m (G : List D → S → R D) : MS := (ssCons (sIf (tTru dTru (mIsi ["tuple", "list"] (mVar 0)))
  (sRet (m2 dAdd (mN dLst (aCons (mIsi ["list"] (mVar 0)) aNil)) (mLc (iAny (mVar 0)) (gSlot 1) tAll (mN G (aCons (mVar 1) aNil)) [1])))
  ssNil)
  (ssCons (sIf (tOr2 (tBool (m2 dIs (mVar 0) (mC .non))) (tTru dTru (mIsi ["bool"] (mVar 0))))
  (sRet (m2 dIx (mN dLst (aCons (mC (.str "None")) (aCons (mC (.str "False")) (aCons (mC (.str "True")) aNil)))) (m2 dAdd (mN dInt (aCons (m2 dIsNot (mVar 0) (mC .non)) aNil)) (mN dInt (aCons (m2 dIs (mVar 0) (mC (.bl true))) aNil)))))
  ssNil)
  (ssCons (sIf (tTru dTru (mIsi ["int", "str"] (mVar 0)))
  (sRet (mN dLst (aCons (mIsi ["str"] (mVar 0)) (aCons (mVar 0) aNil))))
  ssNil)
  (sRet (mC (.str "another"))))))
def g_plain : Nat → List D → S → R D
  | 0 => mkFn 1 2 sNever
  | k + 1 => mkFn 1 2 (g_plain_m (g_plain k))

/-- the deck stands first in the store: numbers from 0 on -/
def Dk (s t : S) : Prop := ∃ L : List Int, s = .lst (L.map .int) :: t ∧ ∀ x ∈ L, 0 ≤ x
theorem Dk.at {s t : S} (h : Dk s t) : ∃ L : List D, s[0]? = some (.lst L) := by
  obtain ⟨L, rfl, _⟩ := h
  exact ⟨_, rfl⟩
theorem take_wp {s t : S} {m : Int} {Q : D → S → Prop} (h : Dk s t) (hm : 0 < m) (k : ∀ v s', 0 ≤ v → v < m → Dk s' t → Q (.int v) s') : wp (g_take [.ref 0, .int m] s) Q := by
  obtain ⟨L, rfl, hL⟩ := h
  refine (wp_fn rfl).mpr ?_
  show wS (g_take_m [some (.ref 0), some (.int m)] _) _
  unfold g_take_m
  simp only [wp_ok, wp_bad, wp_bind, wS_ok, wS_bad, wS_cons, wS_nil, wS_pass, wS_break, wS_cont, wS_never, wS_set, wS_expr, wS_ret, wS_retN, wS_if, wS_asg, wS_aug, wS_for, wp_lc, wp_m1, wp_m2, wp_mN, wp_aNil, wp_aCons, wp_mC, wp_var, wp_if, wp_and, wp_or, wp_not, wp_chain, wp_mt, wp_get, wp_isi, wp_fld, wp_sl, wp_oNone, wp_oSome, wp_tBool, wp_tTru, wp_tNot, wp_tAnd, wp_tOr, wp_tAll, wp_gSlot, wp_gsNil, wp_gsCons, wp_gTup, wp_gSub, wp_iAny, wp_iSeq, wp_iTup, wp_iStr, wp_iRange1, wp_iRange2, wp_iZip, wS_fld, wp_make, seqQ, rtQ, turnQ, List.getElem?_cons_zero, List.getElem?_cons_succ, List.set_cons_zero, List.set_cons_succ, wipeD, if_true, if_false, Bool.false_eq_true, Bool.true_eq_false, reduceIte]
  rw [w_lenR (xs := L.map .int) rfl, w_eqI]
  simp only [List.length_map]
  cases hl : L.reverse with
  | nil =>
    have e : L = [] := by simpa using hl
    subst e
    simp only [List.length_nil, if_true]
    exact k 0 _ (Int.le_refl 0) hm ⟨[], rfl, hL⟩
  | cons x r =>
    have e : L = r.reverse ++ [x] := by
      have := congrArg List.reverse hl
      simpa using this
    subst e
    have hne : ((((r.reverse ++ [x]).length : Nat) : Int) == 0) = false := by simp; omega
    rw [hne]
    simp only [Bool.false_eq_true, if_false]
    refine ⟨hasTy_ref (xs := (r.reverse ++ [x]).map .int) rfl, ?_⟩
    have ep : dPop (.ref 0) [] (O.lst ((r.reverse ++ [x]).map .int) :: t) = .ok (.int x) (O.lst (r.reverse.map .int) :: t) := by
      unfold dPop
      simp only [List.getElem?_cons_zero, List.set_cons_zero]
      have e1 : ((r.reverse ++ [x]).map D.int)[((r.reverse ++ [x]).map D.int).length - 1]? = some (.int x) := by simp
      rw [e1]
      simp
    rw [ep]
    simp only [wp_ok, w_int, w_mod]
    have hx : 0 ≤ x := hL x (by simp)
    exact ⟨hm, k _ _ (Int.emod_nonneg _ (by omega)) (Int.emod_lt_of_pos _ hm) ⟨r.reverse, rfl, fun y hy => hL y (by simp at hy ⊢; exact .inl hy)⟩⟩
theorem rng_mem {lo : Int} {n : Nat} {d : D} (h : d ∈ rng lo n) : ∃ k : Nat, d = .int (lo + k) ∧ k < n := by
  unfold rng at h
  obtain ⟨k, hk, e⟩ := List.mem_map.mp h
  exact ⟨k, e.symm, List.mem_range.mp hk⟩
theorem bits31 {a : Int} (h0 : 0 ≤ a) (h : a < 2147483648) : iBits a ≤ 32 := small_bits (k := 32) (by omega)
/-- the deck: n numbers from each cell, none below 0 -/
theorem deck_wp {ns : List Int} {c e : Int} {Q : D → S → Prop} (hc : 0 ≤ c ∧ c ≤ 1000) (he : 0 ≤ e ∧ e ≤ 1000) (hn : ns.length ≤ 63) (k : ∀ s, Dk s [] → Q (.ref 0) s) : wp (g_deck [.lst (ns.map .int), .int c, .int e] []) Q := by
  refine (wp_fn rfl).mpr ?_
  show wS (g_deck_m [some (.lst (ns.map .int)), some (.int c), some (.int e), none, none, none, none, none, none] _) _
  unfold g_deck_m
  simp only [wp_ok, wp_bad, wp_bind, wS_ok, wS_bad, wS_cons, wS_nil, wS_pass, wS_break, wS_cont, wS_never, wS_set, wS_expr, wS_ret, wS_retN, wS_if, wS_asg, wS_aug, wS_for, wp_lc, wp_m1, wp_m2, wp_mN, wp_aNil, wp_aCons, wp_mC, wp_var, wp_if, wp_and, wp_or, wp_not, wp_chain, wp_mt, wp_get, wp_isi, wp_fld, wp_sl, wp_oNone, wp_oSome, wp_tBool, wp_tTru, wp_tNot, wp_tAnd, wp_tOr, wp_tAll, wp_gSlot, wp_gsNil, wp_gsCons, wp_gTup, wp_gSub, wp_iAny, wp_iSeq, wp_iTup, wp_iStr, wp_iRange1, wp_iRange2, wp_iZip, wS_fld, wp_make, seqQ, rtQ, turnQ, List.getElem?_cons_zero, List.getElem?_cons_succ, List.set_cons_zero, List.set_cons_succ, wipeD, if_true, if_false, Bool.false_eq_true, Bool.true_eq_false, reduceIte]
  rw [w_new]
  refine ⟨by simp, ?_⟩
  simp only [List.length_nil, List.nil_append, w_len, w_add]
  refine ⟨by omega, ?_⟩
  let I : List D → Rho → S → Prop := fun xs ρ s => ∃ (seed : Int) (v5 v6 v7 v8 : Option D) (L : List Int), ρ = [some (.lst (ns.map .int)), some (.int c), some (.int e), some (.ref 0), some (.int seed), v5, v6, v7, v8] ∧ s = [.lst (L.map .int)] ∧ (0 ≤ seed ∧ seed < 2147483648) ∧
    (∀ x ∈ L, 0 ≤ x) ∧ (∀ d ∈ xs, ∃ j : Int, d = .int j ∧ 0 ≤ j ∧ j < 1000) ∧ L.length + 1000 * xs.length ≤ 1000 * 1000
  refine wS_forN I ?_ ?_ _ _ _ ⟨7 + (ns.length : Nat), none, none, none, none, [], by simp, by simp, by omega, by simp, ?_, ?_⟩
  · rintro ρ s ⟨seed, v5, v6, v7, v8, L, rfl, rfl, hs, hL, _, _⟩
    simp only [wp_ok, wp_bad, wp_bind, wS_ok, wS_bad, wS_cons, wS_nil, wS_pass, wS_break, wS_cont, wS_never, wS_set, wS_expr, wS_ret, wS_retN, wS_if, wS_asg, wS_aug, wS_for, wp_lc, wp_m1, wp_m2, wp_mN, wp_aNil, wp_aCons, wp_mC, wp_var, wp_if, wp_and, wp_or, wp_not, wp_chain, wp_mt, wp_get, wp_isi, wp_fld, wp_sl, wp_oNone, wp_oSome, wp_tBool, wp_tTru, wp_tNot, wp_tAnd, wp_tOr, wp_tAll, wp_gSlot, wp_gsNil, wp_gsCons, wp_gTup, wp_gSub, wp_iAny, wp_iSeq, wp_iTup, wp_iStr, wp_iRange1, wp_iRange2, wp_iZip, wS_fld, wp_make, seqQ, rtQ, turnQ, List.getElem?_cons_zero, List.getElem?_cons_succ, List.set_cons_zero, List.set_cons_succ, wipeD, if_true, if_false, Bool.false_eq_true, Bool.true_eq_false, reduceIte]
    refine ⟨hasTy_ref (xs := L.map .int) rfl, ?_⟩
    rw [w_reverse (xs := L.map .int) rfl]
    exact k _ ⟨L.reverse, by simp, fun x hx => hL x (by simpa using hx)⟩
  · rintro x xs ρ s ⟨seed, v5, v6, v7, v8, L, rfl, rfl, hs, hL, hx, hlen⟩
    obtain ⟨j, rfl, hj0, hj1⟩ := hx x List.mem_cons_self
    have hxs : ∀ d ∈ xs, ∃ j : Int, d = .int j ∧ 0 ≤ j ∧ j < 1000 := fun d hd => hx d (List.mem_cons_of_mem _ hd)
    simp only [List.length_cons] at hlen
    -- behind the choice of the cell
    have rest : ∀ cell : Int, wS (ssCons (sSet 7 (mN dAbs (aCons (mVar 6) aNil)))
        (sIf (tBool (m2 dGe (mVar 7) (m2 dPow (mC (.int 10)) (mC (.int 30)))))
        (sFor (iRange1 (mVar 2)) (gSlot 8)
        (ssCons (sExpr (mMt "list" dAppend (mVar 3) (aCons (m2 dMod (mN dInt (aCons (mVar 7) aNil)) (mC (.int 1000003))) aNil)))
        (sSet 7 (m2 dFdiv (mVar 7) (mC (.int 1000003))))))
        (ssCons (sSet 4 (m2 dMod (mN dInt (aCons (m2 dAdd (m2 dAdd (m2 dAdd (m2 dMul (mVar 4) (mC (.int 48271))) (m2 dMul (mC (.int 2)) (mVar 7))) (mN dInt (aCons (m2 dLt (mVar 6) (mC (.int 0))) aNil))) (mVar 5)) aNil)) (mC (.int 2147483647))))
        (sFor (iRange1 (mVar 2)) (gSlot 8)
        (ssCons (sSet 4 (m2 dMod (mN dInt (aCons (m2 dAdd (m2 dAdd (m2 dMul (mVar 4) (mC (.int 69621))) (mVar 8)) (mC (.int 1))) aNil)) (mC (.int 2147483629))))
        (sExpr (mMt "list" dAppend (mVar 3) (aCons (m2 dMod (mN dInt (aCons (m2 dFdiv (mVar 4) (mC (.int 5))) aNil)) (mC (.int 1000003))) aNil)))))))
        [some (.lst (ns.map .int)), some (.int c), some (.int e), some (.ref 0), some (.int seed), some (.int j), some (.int cell), v7, v8] [.lst (L.map .int)]) (turnQ (I xs) fun c s => seqQ (ssCons (sExpr (mMt "list" dReverse (mVar 3) aNil)) (sRet (mVar 3))) (rtQ Q) c s) := by
      intro cell
      simp only [wp_ok, wp_bad, wp_bind, wS_ok, wS_bad, wS_cons, wS_nil, wS_pass, wS_break, wS_cont, wS_never, wS_set, wS_expr, wS_ret, wS_retN, wS_if, wS_asg, wS_aug, wS_for, wp_lc, wp_m1, wp_m2, wp_mN, wp_aNil, wp_aCons, wp_mC, wp_var, wp_if, wp_and, wp_or, wp_not, wp_chain, wp_mt, wp_get, wp_isi, wp_fld, wp_sl, wp_oNone, wp_oSome, wp_tBool, wp_tTru, wp_tNot, wp_tAnd, wp_tOr, wp_tAll, wp_gSlot, wp_gsNil, wp_gsCons, wp_gTup, wp_gSub, wp_iAny, wp_iSeq, wp_iTup, wp_iStr, wp_iRange1, wp_iRange2, wp_iZip, wS_fld, wp_make, seqQ, rtQ, turnQ, List.getElem?_cons_zero, List.getElem?_cons_succ, List.set_cons_zero, List.set_cons_succ, wipeD, if_true, if_false, Bool.false_eq_true, Bool.true_eq_false, reduceIte]
      rw [w_abs]
      simp only [w_pow, w_ge]
      refine ⟨by decide, ?_⟩
      generalize hab : (if cell < 0 then -cell else cell) = ab
      have h10 : ((10 : Int) ^ (30 : Int).toNat) = 1000000000000000000000000000000 := by decide
      have hab0 : 0 ≤ ab := by rw [← hab]; split <;> omega
      rw [h10]
      split
      · refine ⟨by omega, ?_⟩
        let J : List D → Rho → S → Prop := fun ys ρ s => ∃ (v7 : Int) (v8 : Option D) (L' : List Int), ρ = [some (.lst (ns.map .int)), some (.int c), some (.int e), some (.ref 0), some (.int seed), some (.int j), some (.int cell), some (.int v7), v8] ∧ s = [.lst (L'.map .int)] ∧ (∀ x ∈ L', 0 ≤ x) ∧ L'.length + ys.length ≤ L.length + 1000
        refine wS_forN J ?_ ?_ _ _ _ ⟨ab, v8, L, by simp, rfl, hL, by unfold rng; simp; omega⟩
        · rintro ρ s ⟨v7, v8, L', rfl, rfl, hL', hlen'⟩
          simp only [List.length_nil] at hlen'
          exact ⟨seed, _, _, _, _, L', rfl, rfl, hs, hL', hxs, by omega⟩
        · rintro y ys ρ s ⟨v7, v8, L', rfl, rfl, hL', hlen'⟩
          simp only [List.length_cons] at hlen'
          simp only [wp_ok, wp_bad, wp_bind, wS_ok, wS_bad, wS_cons, wS_nil, wS_pass, wS_break, wS_cont, wS_never, wS_set, wS_expr, wS_ret, wS_retN, wS_if, wS_asg, wS_aug, wS_for, wp_lc, wp_m1, wp_m2, wp_mN, wp_aNil, wp_aCons, wp_mC, wp_var, wp_if, wp_and, wp_or, wp_not, wp_chain, wp_mt, wp_get, wp_isi, wp_fld, wp_sl, wp_oNone, wp_oSome, wp_tBool, wp_tTru, wp_tNot, wp_tAnd, wp_tOr, wp_tAll, wp_gSlot, wp_gsNil, wp_gsCons, wp_gTup, wp_gSub, wp_iAny, wp_iSeq, wp_iTup, wp_iStr, wp_iRange1, wp_iRange2, wp_iZip, wS_fld, wp_make, seqQ, rtQ, turnQ, List.getElem?_cons_zero, List.getElem?_cons_succ, List.set_cons_zero, List.set_cons_succ, wipeD, if_true, if_false, Bool.false_eq_true, Bool.true_eq_false, reduceIte]
          refine ⟨hasTy_ref (xs := L'.map .int) rfl, ?_⟩
          simp only [w_int, w_mod, w_fdiv]
          refine ⟨by decide, ?_⟩
          rw [w_append (xs := L'.map .int) rfl]
          refine ⟨by simp only [List.length_map]; show L'.length < 16777216; omega, ⟨by decide, by decide⟩, ?_⟩
          exact ⟨_, _, L' ++ [v7 % 1000003], rfl, by simp, fun x hx => by
            rcases List.mem_append.mp hx with hx | hx
            · exact hL' x hx
            · rw [List.mem_singleton.mp hx]; exact Int.emod_nonneg _ (by decide), by simp only [List.length_append, List.length_singleton]; omega⟩
      · rename_i hge
        have hab1 : ab < 1000000000000000000000000000000 := by
          have : ¬ (ab ≥ 1000000000000000000000000000000) := by simpa using hge
          omega
        simp only [w_mul, w_lt, w_intB, w_add, w_int, w_mod]
        refine ⟨?_, ?_, by decide, by omega, ?_⟩
        · have := bits31 hs.1 hs.2
          have h2 : iBits 48271 ≤ 32 := by decide
          omega
        · have h1 : iBits ab ≤ 100 := small_bits (k := 100) (by omega)
          have h2 : iBits 2 ≤ 32 := by decide
          omega
        generalize (seed * 48271 + 2 * ab + (if decide (cell < 0) = true then (1 : Int) else 0) + j) = z
        let J : List D → Rho → S → Prop := fun ys ρ s => ∃ (seed : Int) (v8 : Option D) (L' : List Int), ρ = [some (.lst (ns.map .int)), some (.int c), some (.int e), some (.ref 0), some (.int seed), some (.int j), some (.int cell), some (.int ab), v8] ∧ s = [.lst (L'.map .int)] ∧ (0 ≤ seed ∧ seed < 2147483648) ∧ (∀ x ∈ L', 0 ≤ x) ∧ (∀ d ∈ ys, ∃ j : Int, d = .int j ∧ 0 ≤ j) ∧ L'.length + ys.length ≤ L.length + 1000
        have hz1 : 0 ≤ z % 2147483647 := Int.emod_nonneg _ (by decide)
        have hz2 : z % 2147483647 < 2147483647 := Int.emod_lt_of_pos _ (by decide)
        refine wS_forN J ?_ ?_ _ _ _ ⟨z % 2147483647, v8, L, by simp, rfl, ⟨hz1, by omega⟩, hL, ?_, by unfold rng; simp; omega⟩
        · rintro ρ s ⟨seed, v8, L', rfl, rfl, hs', hL', _, hlen'⟩
          simp only [List.length_nil] at hlen'
          exact ⟨seed, _, _, _, _, L', rfl, rfl, hs', hL', hxs, by omega⟩
        · intro y ys ρ s h
          obtain ⟨seed', v8, L', e1, e2, hs', hL', hys, hlen'⟩ := h
          subst e1 e2
          simp only [List.length_cons] at hlen'
          obtain ⟨q, rfl, hq⟩ := hys y List.mem_cons_self
          simp only [wp_ok, wp_bad, wp_bind, wS_ok, wS_bad, wS_cons, wS_nil, wS_pass, wS_break, wS_cont, wS_never, wS_set, wS_expr, wS_ret, wS_retN, wS_if, wS_asg, wS_aug, wS_for, wp_lc, wp_m1, wp_m2, wp_mN, wp_aNil, wp_aCons, wp_mC, wp_var, wp_if, wp_and, wp_or, wp_not, wp_chain, wp_mt, wp_get, wp_isi, wp_fld, wp_sl, wp_oNone, wp_oSome, wp_tBool, wp_tTru, wp_tNot, wp_tAnd, wp_tOr, wp_tAll, wp_gSlot, wp_gsNil, wp_gsCons, wp_gTup, wp_gSub, wp_iAny, wp_iSeq, wp_iTup, wp_iStr, wp_iRange1, wp_iRange2, wp_iZip, wS_fld, wp_make, seqQ, rtQ, turnQ, List.getElem?_cons_zero, List.getElem?_cons_succ, List.set_cons_zero, List.set_cons_succ, wipeD, if_true, if_false, Bool.false_eq_true, Bool.true_eq_false, reduceIte]
          simp only [w_mul, w_add, w_int, w_mod, w_fdiv]
          refine ⟨?_, by decide, hasTy_ref (xs := L'.map .int) rfl, ⟨by decide, by decide⟩, by decide, ?_⟩
          · have := bits31 hs'.1 hs'.2
            have h2 : iBits 69621 ≤ 32 := by decide
            omega
          rw [w_append (xs := L'.map .int) rfl]
          refine ⟨by simp only [List.length_map]; show L'.length < 16777216; omega, ?_⟩
          have hm1 : 0 ≤ (seed' * 69621 + q + 1) % 2147483629 := Int.emod_nonneg _ (by decide)
          have hm2 : (seed' * 69621 + q + 1) % 2147483629 < 2147483629 := Int.emod_lt_of_pos _ (by decide)
          exact ⟨_, _, L' ++ [(seed' * 69621 + q + 1) % 2147483629 / 5 % 1000003], rfl, by simp, ⟨hm1, by omega⟩, fun x hx => by
            rcases List.mem_append.mp hx with hx | hx
            · exact hL' x hx
            · rw [List.mem_singleton.mp hx]; exact Int.emod_nonneg _ (by decide), fun d hd => hys d (List.mem_cons_of_mem _ hd), by simp only [List.length_append, List.length_singleton]; omega⟩
        · intro d hd
          obtain ⟨k, rfl, _⟩ := rng_mem hd
          exact ⟨_, rfl, by omega⟩
    rw [wp_gSlot]
    simp only [List.set_cons_zero, List.set_cons_succ]
    rw [wS_cons, wS_set, wp_mC]
    show wS (ssCons (sIf _ _ _) _ _ _) _
    rw [wS_cons, wS_if]
    simp only [List.set_cons_zero, List.set_cons_succ, wp_tBool, wp_m2, wp_mN, wp_aCons, wp_aNil, wp_var, List.getElem?_cons_zero, List.getElem?_cons_succ, w_len, w_lt]
    split
    · rename_i hlt
      have hlt' : j < (ns.map D.int).length := by simpa using hlt
      obtain ⟨d, hd, ei, _⟩ := atI_mem (xs := ns.map D.int) hj0 hlt'
      obtain ⟨cell, _, rfl⟩ := List.mem_map.mp hd
      rw [wS_set, wp_m2]
      simp only [wp_var, List.getElem?_cons_zero, List.getElem?_cons_succ]
      rw [w_ix, ei]
      exact rest cell
    · rw [wS_nil]
      exact rest 0
  · intro d hd
    obtain ⟨k, rfl, hk⟩ := rng_mem hd
    exact ⟨_, rfl, by omega, by omega⟩
  · unfold rng
    simp
    omega
/-! what a datum is told as -/
theorem plain_unf {k : Nat} {d : D} {s : S} {Q : D → S → Prop} : wp (g_plain (k + 1) [d] s) Q = wS (g_plain_m (g_plain k) [some d, none] s) (rtQ Q) := wp_fn (n := 1) (tot := 2) (m := g_plain_m (g_plain k)) rfl
def plainOk : Nat → D → Bool
  | 0, _ => false
  | _ + 1, .non => true
  | _ + 1, .bl _ => true
  | _ + 1, .int _ => true
  | _ + 1, .str x => PyData.strOk x
  | k + 1, .tup xs => decide (xs.length < sizeLine) && xs.all (plainOk k)
  | k + 1, .lst xs => decide (xs.length < sizeLine) && xs.all (plainOk k)
  | _, _ => false
/-- told, and the same at every store -/
def Told (k n : Nat) (d : D) : Prop := ∃ d', (∀ s, g_plain k [d] s = .ok d' s) ∧ ∀ s, ∃ p, toPy s n d' = some p
theorem told_map {G : List D → S → R D} {n : Nat} {all : List D} : ∀ {xs : List D} {v : Option D}, (∀ x ∈ xs, ∃ d', (∀ s, G [x] s = .ok d' s) ∧ ∀ s, ∃ p, toPy s n d' = some p) →
    ∃ ys, ys.length = xs.length ∧ (∀ (o : Option D) s, mapL none all (gSlot 1) tAll (mN G (aCons (mVar 1) aNil)) xs [v, o] s = .ok ys s) ∧ ∀ s, ∃ ps, optAll (toPy s n) ys = some ps
  | [], v, _ => ⟨[], rfl, fun o s => by unfold mapL; exact if_pos trivial, fun s => ⟨[], rfl⟩⟩
  | x :: xs, v, h => by
    obtain ⟨d, h1, h2⟩ := h x List.mem_cons_self
    obtain ⟨ys, e1, h3, h4⟩ := told_map (G := G) (n := n) (all := all) (xs := xs) (v := v) fun y hy => h y (List.mem_cons_of_mem _ hy)
    refine ⟨d :: ys, by simp [e1], fun o s => ?_, fun s => ?_⟩
    · unfold mapL
      rw [if_pos (show gOk none all s from trivial)]
      have e2 : mN G (aCons (mVar 1) aNil) [v, some x] s = .ok d s := by
        show R.bind (R.bind (R.ok x s) _) _ = _
        simp only [R.bind, aNil]
        exact h1 s
      simp only [gSlot, List.set_cons_succ, List.set_cons_zero, tAll, e2, h3 o s]
    · obtain ⟨p, hp⟩ := h2 s
      obtain ⟨ps, hps⟩ := h4 s
      exact ⟨p :: ps, by simp only [optAll, hp, hps]⟩
theorem told_seq {k n : Nat} {xs : List D} {b : Bool} (hl : xs.length < sizeLine) (h : ∀ x ∈ xs, Told k (n + 1) x) {d : D} (hd : d = .tup xs ∧ b = false ∨ d = .lst xs ∧ b = true) : Told (k + 1) (n + 2) d := by
  obtain ⟨ys, e1, h3, h4⟩ := told_map (G := g_plain k) (n := n + 1) (all := xs) (xs := xs) (v := some d) h
  refine ⟨.lst (.bl b :: ys), fun s => ?_, fun s => ?_⟩
  · have hw : wp (g_plain (k + 1) [d] s) fun d' s' => d' = .lst (.bl b :: ys) ∧ s' = s := by
      rw [plain_unf]
      unfold g_plain_m
      have hlen : (1 : Nat) + ys.length ≤ sizeLine := by rw [e1]; omega
      rcases hd with ⟨rfl, rfl⟩ | ⟨rfl, rfl⟩
      · simp only [wp_ok, wp_bad, wp_bind, wS_ok, wS_bad, wS_cons, wS_nil, wS_pass, wS_break, wS_cont, wS_never, wS_set, wS_expr, wS_ret, wS_retN, wS_if, wS_asg, wS_aug, wS_for, wp_lc, wp_m1, wp_m2, wp_mN, wp_aNil, wp_aCons, wp_mC, wp_var, wp_if, wp_and, wp_or, wp_not, wp_chain, wp_mt, wp_get, wp_isi, wp_fld, wp_sl, wp_oNone, wp_oSome, wp_tBool, wp_tTru, wp_tNot, wp_tAnd, wp_tOr, wp_tAll, wp_gSlot, wp_gsNil, wp_gsCons, wp_gTup, wp_gSub, wp_iAny, wp_iSeq, wp_iTup, wp_iStr, wp_iRange1, wp_iRange2, wp_iZip, wS_fld, wp_make, seqQ, rtQ, turnQ, List.getElem?_cons_zero, List.getElem?_cons_succ, List.set_cons_zero, List.set_cons_succ, wipeD, if_true, if_false, Bool.false_eq_true, Bool.true_eq_false, reduceIte]
        simp only [tyName, List.any_cons, List.any_nil, isSub, dTru, w_lst]
        refine (if_pos (by decide)).mpr ?_
        refine ⟨by decide, ?_⟩
        rw [h3, wp_ok]
        refine ⟨Nat.le_of_lt hl, ?_⟩
        rw [w_addL]
        exact ⟨hlen, rfl, rfl⟩
      · simp only [wp_ok, wp_bad, wp_bind, wS_ok, wS_bad, wS_cons, wS_nil, wS_pass, wS_break, wS_cont, wS_never, wS_set, wS_expr, wS_ret, wS_retN, wS_if, wS_asg, wS_aug, wS_for, wp_lc, wp_m1, wp_m2, wp_mN, wp_aNil, wp_aCons, wp_mC, wp_var, wp_if, wp_and, wp_or, wp_not, wp_chain, wp_mt, wp_get, wp_isi, wp_fld, wp_sl, wp_oNone, wp_oSome, wp_tBool, wp_tTru, wp_tNot, wp_tAnd, wp_tOr, wp_tAll, wp_gSlot, wp_gsNil, wp_gsCons, wp_gTup, wp_gSub, wp_iAny, wp_iSeq, wp_iTup, wp_iStr, wp_iRange1, wp_iRange2, wp_iZip, wS_fld, wp_make, seqQ, rtQ, turnQ, List.getElem?_cons_zero, List.getElem?_cons_succ, List.set_cons_zero, List.set_cons_succ, wipeD, if_true, if_false, Bool.false_eq_true, Bool.true_eq_false, reduceIte]
        simp only [tyName, List.any_cons, List.any_nil, isSub, dTru, w_lst]
        refine (if_pos (by decide)).mpr ?_
        refine ⟨by decide, ?_⟩
        rw [h3, wp_ok]
        refine ⟨Nat.le_of_lt hl, ?_⟩
        rw [w_addL]
        exact ⟨hlen, rfl, rfl⟩
    obtain ⟨d', s', e, rfl, rfl⟩ := wp_ex hw
    exact e
  · obtain ⟨ps, hps⟩ := h4 s
    refine ⟨.list (.bool b :: ps), ?_⟩
    simp only [toPy, optAll, hps]
    rfl
theorem told_base {k n : Nat} {d d' : D} (h : ∀ s, g_plain (k + 1) [d] s = .ok d' s) (h2 : ∀ s, ∃ p, toPy s n d' = some p) : Told (k + 1) n d := ⟨d', h, h2⟩
theorem told_wp {k : Nat} {d d' : D} (h : ∀ s, wp (g_plain k [d] s) fun e s' => e = d' ∧ s' = s) : ∀ s, g_plain k [d] s = .ok d' s := fun s => by
  obtain ⟨e, s', h1, rfl, rfl⟩ := wp_ex (h s)
  exact h1
theorem told : ∀ (k : Nat) (d : D), plainOk k d = true → Told k (k + 2) d
  | 0, _, h => by simp [plainOk] at h
  | k + 1, d, h => by
    have seq : ∀ xs : List D, (decide (xs.length < sizeLine) && xs.all (plainOk k)) = true → xs.length < sizeLine ∧ ∀ x ∈ xs, Told k (k + 1 + 1) x := fun xs hx => by
      rw [Bool.and_eq_true] at hx
      exact ⟨of_decide_eq_true hx.1, fun x hm => told k x (List.all_eq_true.mp hx.2 x hm)⟩
    cases d with
    | tup xs =>
      obtain ⟨h1, h2⟩ := seq xs (by simpa [plainOk] using h)
      exact told_seq h1 h2 (.inl ⟨rfl, rfl⟩)
    | lst xs =>
      obtain ⟨h1, h2⟩ := seq xs (by simpa [plainOk] using h)
      exact told_seq h1 h2 (.inr ⟨rfl, rfl⟩)
    | non =>
      refine told_base (d' := .str "None") (told_wp fun s => ?_) fun s => ⟨.str "None", by simp only [toPy]; exact if_pos (by decide +kernel)⟩
      rw [plain_unf]
      unfold g_plain_m
      simp only [wp_ok, wp_bad, wp_bind, wS_ok, wS_bad, wS_cons, wS_nil, wS_pass, wS_break, wS_cont, wS_never, wS_set, wS_expr, wS_ret, wS_retN, wS_if, wS_asg, wS_aug, wS_for, wp_lc, wp_m1, wp_m2, wp_mN, wp_aNil, wp_aCons, wp_mC, wp_var, wp_if, wp_and, wp_or, wp_not, wp_chain, wp_mt, wp_get, wp_isi, wp_fld, wp_sl, wp_oNone, wp_oSome, wp_tBool, wp_tTru, wp_tNot, wp_tAnd, wp_tOr, wp_tAll, wp_gSlot, wp_gsNil, wp_gsCons, wp_gTup, wp_gSub, wp_iAny, wp_iSeq, wp_iTup, wp_iStr, wp_iRange1, wp_iRange2, wp_iZip, wS_fld, wp_make, seqQ, rtQ, turnQ, List.getElem?_cons_zero, List.getElem?_cons_succ, List.set_cons_zero, List.set_cons_succ, wipeD, if_true, if_false, Bool.false_eq_true, Bool.true_eq_false, reduceIte]
      simp only [tyName, List.any_cons, List.any_nil, isSub, dTru, w_lst, w_isN, w_isnotN, w_isNB, isNonD, w_intB, w_add]
      refine (if_neg (by decide)).mpr ?_
      simp only [wp_ok, wp_bad, wp_bind, wS_ok, wS_bad, wS_cons, wS_nil, wS_pass, wS_break, wS_cont, wS_never, wS_set, wS_expr, wS_ret, wS_retN, wS_if, wS_asg, wS_aug, wS_for, wp_lc, wp_m1, wp_m2, wp_mN, wp_aNil, wp_aCons, wp_mC, wp_var, wp_if, wp_and, wp_or, wp_not, wp_chain, wp_mt, wp_get, wp_isi, wp_fld, wp_sl, wp_oNone, wp_oSome, wp_tBool, wp_tTru, wp_tNot, wp_tAnd, wp_tOr, wp_tAll, wp_gSlot, wp_gsNil, wp_gsCons, wp_gTup, wp_gSub, wp_iAny, wp_iSeq, wp_iTup, wp_iStr, wp_iRange1, wp_iRange2, wp_iZip, wS_fld, wp_make, seqQ, rtQ, turnQ, List.getElem?_cons_zero, List.getElem?_cons_succ, List.set_cons_zero, List.set_cons_succ, wipeD, if_true, if_false, Bool.false_eq_true, Bool.true_eq_false, reduceIte]
      refine ⟨by decide, ?_⟩
      rw [w_ix]
      exact ⟨rfl, rfl⟩
    | bl b =>
      refine told_base (d' := .str (if b then "True" else "False")) (told_wp fun s => ?_) fun s => by cases b <;> exact ⟨_, if_pos (by decide +kernel)⟩
      rw [plain_unf]
      unfold g_plain_m
      simp only [wp_ok, wp_bad, wp_bind, wS_ok, wS_bad, wS_cons, wS_nil, wS_pass, wS_break, wS_cont, wS_never, wS_set, wS_expr, wS_ret, wS_retN, wS_if, wS_asg, wS_aug, wS_for, wp_lc, wp_m1, wp_m2, wp_mN, wp_aNil, wp_aCons, wp_mC, wp_var, wp_if, wp_and, wp_or, wp_not, wp_chain, wp_mt, wp_get, wp_isi, wp_fld, wp_sl, wp_oNone, wp_oSome, wp_tBool, wp_tTru, wp_tNot, wp_tAnd, wp_tOr, wp_tAll, wp_gSlot, wp_gsNil, wp_gsCons, wp_gTup, wp_gSub, wp_iAny, wp_iSeq, wp_iTup, wp_iStr, wp_iRange1, wp_iRange2, wp_iZip, wS_fld, wp_make, seqQ, rtQ, turnQ, List.getElem?_cons_zero, List.getElem?_cons_succ, List.set_cons_zero, List.set_cons_succ, wipeD, if_true, if_false, Bool.false_eq_true, Bool.true_eq_false, reduceIte]
      simp only [tyName, List.any_cons, List.any_nil, isSub, dTru, w_lst, w_isN, w_isnotN, w_isB, isNonD, w_intB, w_add]
      refine (if_neg (by decide)).mpr ?_
      simp only [wp_ok, wp_bad, wp_bind, wS_ok, wS_bad, wS_cons, wS_nil, wS_pass, wS_break, wS_cont, wS_never, wS_set, wS_expr, wS_ret, wS_retN, wS_if, wS_asg, wS_aug, wS_for, wp_lc, wp_m1, wp_m2, wp_mN, wp_aNil, wp_aCons, wp_mC, wp_var, wp_if, wp_and, wp_or, wp_not, wp_chain, wp_mt, wp_get, wp_isi, wp_fld, wp_sl, wp_oNone, wp_oSome, wp_tBool, wp_tTru, wp_tNot, wp_tAnd, wp_tOr, wp_tAll, wp_gSlot, wp_gsNil, wp_gsCons, wp_gTup, wp_gSub, wp_iAny, wp_iSeq, wp_iTup, wp_iStr, wp_iRange1, wp_iRange2, wp_iZip, wS_fld, wp_make, seqQ, rtQ, turnQ, List.getElem?_cons_zero, List.getElem?_cons_succ, List.set_cons_zero, List.set_cons_succ, wipeD, if_true, if_false, Bool.false_eq_true, Bool.true_eq_false, reduceIte]
      refine (if_pos (by decide)).mpr ?_
      refine ⟨by decide, ?_⟩
      cases b <;> (rw [w_ix]; exact ⟨rfl, rfl⟩)
    | int i =>
      refine told_base (d' := .lst [.bl false, .int i]) (told_wp fun s => ?_) fun s => ⟨.list [.bool false, .int i], rfl⟩
      rw [plain_unf]
      unfold g_plain_m
      simp only [wp_ok, wp_bad, wp_bind, wS_ok, wS_bad, wS_cons, wS_nil, wS_pass, wS_break, wS_cont, wS_never, wS_set, wS_expr, wS_ret, wS_retN, wS_if, wS_asg, wS_aug, wS_for, wp_lc, wp_m1, wp_m2, wp_mN, wp_aNil, wp_aCons, wp_mC, wp_var, wp_if, wp_and, wp_or, wp_not, wp_chain, wp_mt, wp_get, wp_isi, wp_fld, wp_sl, wp_oNone, wp_oSome, wp_tBool, wp_tTru, wp_tNot, wp_tAnd, wp_tOr, wp_tAll, wp_gSlot, wp_gsNil, wp_gsCons, wp_gTup, wp_gSub, wp_iAny, wp_iSeq, wp_iTup, wp_iStr, wp_iRange1, wp_iRange2, wp_iZip, wS_fld, wp_make, seqQ, rtQ, turnQ, List.getElem?_cons_zero, List.getElem?_cons_succ, List.set_cons_zero, List.set_cons_succ, wipeD, if_true, if_false, Bool.false_eq_true, Bool.true_eq_false, reduceIte]
      simp only [tyName, List.any_cons, List.any_nil, isSub, dTru, w_lst, w_isN, w_isnotN, isNonD, w_intB, w_add]
      refine (if_neg (by decide)).mpr ?_
      simp only [wp_ok, wp_bad, wp_bind, wS_ok, wS_bad, wS_cons, wS_nil, wS_pass, wS_break, wS_cont, wS_never, wS_set, wS_expr, wS_ret, wS_retN, wS_if, wS_asg, wS_aug, wS_for, wp_lc, wp_m1, wp_m2, wp_mN, wp_aNil, wp_aCons, wp_mC, wp_var, wp_if, wp_and, wp_or, wp_not, wp_chain, wp_mt, wp_get, wp_isi, wp_fld, wp_sl, wp_oNone, wp_oSome, wp_tBool, wp_tTru, wp_tNot, wp_tAnd, wp_tOr, wp_tAll, wp_gSlot, wp_gsNil, wp_gsCons, wp_gTup, wp_gSub, wp_iAny, wp_iSeq, wp_iTup, wp_iStr, wp_iRange1, wp_iRange2, wp_iZip, wS_fld, wp_make, seqQ, rtQ, turnQ, List.getElem?_cons_zero, List.getElem?_cons_succ, List.set_cons_zero, List.set_cons_succ, wipeD, if_true, if_false, Bool.false_eq_true, Bool.true_eq_false, reduceIte]
      refine (if_neg (by decide)).mpr ?_
      refine (if_pos (by decide)).mpr ?_
      refine ⟨by show 2 ≤ sizeLine; decide, ?_⟩
      simp
    | str x =>
      have hx : PyData.strOk x = true := by simpa [plainOk] using h
      refine told_base (d' := .lst [.bl true, .str x]) (told_wp fun s => ?_) fun s => ⟨.list [.bool true, .str x], by simp only [toPy, optAll, hx]; rfl⟩
      rw [plain_unf]
      unfold g_plain_m
      simp only [wp_ok, wp_bad, wp_bind, wS_ok, wS_bad, wS_cons, wS_nil, wS_pass, wS_break, wS_cont, wS_never, wS_set, wS_expr, wS_ret, wS_retN, wS_if, wS_asg, wS_aug, wS_for, wp_lc, wp_m1, wp_m2, wp_mN, wp_aNil, wp_aCons, wp_mC, wp_var, wp_if, wp_and, wp_or, wp_not, wp_chain, wp_mt, wp_get, wp_isi, wp_fld, wp_sl, wp_oNone, wp_oSome, wp_tBool, wp_tTru, wp_tNot, wp_tAnd, wp_tOr, wp_tAll, wp_gSlot, wp_gsNil, wp_gsCons, wp_gTup, wp_gSub, wp_iAny, wp_iSeq, wp_iTup, wp_iStr, wp_iRange1, wp_iRange2, wp_iZip, wS_fld, wp_make, seqQ, rtQ, turnQ, List.getElem?_cons_zero, List.getElem?_cons_succ, List.set_cons_zero, List.set_cons_succ, wipeD, if_true, if_false, Bool.false_eq_true, Bool.true_eq_false, reduceIte]
      simp only [tyName, List.any_cons, List.any_nil, isSub, dTru, w_lst, w_isN, w_isnotN, isNonD, w_intB, w_add]
      refine (if_neg (by decide)).mpr ?_
      simp only [wp_ok, wp_bad, wp_bind, wS_ok, wS_bad, wS_cons, wS_nil, wS_pass, wS_break, wS_cont, wS_never, wS_set, wS_expr, wS_ret, wS_retN, wS_if, wS_asg, wS_aug, wS_for, wp_lc, wp_m1, wp_m2, wp_mN, wp_aNil, wp_aCons, wp_mC, wp_var, wp_if, wp_and, wp_or, wp_not, wp_chain, wp_mt, wp_get, wp_isi, wp_fld, wp_sl, wp_oNone, wp_oSome, wp_tBool, wp_tTru, wp_tNot, wp_tAnd, wp_tOr, wp_tAll, wp_gSlot, wp_gsNil, wp_gsCons, wp_gTup, wp_gSub, wp_iAny, wp_iSeq, wp_iTup, wp_iStr, wp_iRange1, wp_iRange2, wp_iZip, wS_fld, wp_make, seqQ, rtQ, turnQ, List.getElem?_cons_zero, List.getElem?_cons_succ, List.set_cons_zero, List.set_cons_succ, wipeD, if_true, if_false, Bool.false_eq_true, Bool.true_eq_false, reduceIte]
      refine (if_neg (by decide)).mpr ?_
      refine (if_pos (by decide)).mpr ?_
      refine ⟨by show 2 ≤ sizeLine; decide, ?_⟩
      simp
    | _ => simp [plainOk] at h
theorem optAll_up {f g : D → Option PyData} (h : ∀ d p, f d = some p → g d = some p) : ∀ {xs : List D} {ps : List PyData}, optAll f xs = some ps → optAll g xs = some ps
  | [], ps, e => e
  | x :: xs, ps, e => by
    simp only [optAll] at e ⊢
    cases h1 : f x with
    | none => rw [h1] at e; cases e
    | some p =>
      cases h2 : optAll f xs with
      | none => rw [h1, h2] at e; cases e
      | some qs => rw [h1, h2] at e; rw [h _ _ h1, optAll_up h h2]; exact e
theorem toPy_up {s : S} : ∀ (k : Nat) (d : D) (p : PyData), toPy s k d = some p → toPy s (k + 1) d = some p
  | 0, _, _, e => by simp [toPy] at e
  | k + 1, d, p, e => by
    have up := fun {xs ps} => optAll_up (xs := xs) (ps := ps) (toPy_up (s := s) k)
    have seq : ∀ {c : List PyData → PyData} {xs : List D}, (optAll (toPy s k) xs).map c = some p → (optAll (toPy s (k + 1)) xs).map c = some p := fun {c xs} h => by
      cases h1 : optAll (toPy s k) xs with
      | none => rw [h1] at h; cases h
      | some ps => rw [up h1, ← h, h1]
    cases d with
    | tup xs => exact seq (show (optAll (toPy s k) xs).map .tuple = some p from e)
    | lst xs => exact seq (show (optAll (toPy s k) xs).map .list = some p from e)
    | ref n =>
      have e1 : (match s[n]? with | some (O.lst xs) => (optAll (toPy s k) xs).map PyData.list | _ => none) = some p := e
      show (match s[n]? with | some (O.lst xs) => (optAll (toPy s (k + 1)) xs).map PyData.list | _ => none) = some p
      cases h1 : s[n]? with
      | none => rw [h1] at e1; cases e1
      | some o =>
        rw [h1] at e1
        cases o with
        | ins c fs => cases e1
        | lst xs => exact seq e1
    | _ => exact e
theorem toPy_le {s : S} {j k : Nat} (h : j ≤ k) {d : D} {p : PyData} (e : toPy s j d = some p) : toPy s k d = some p := by
  induction h with
  | refl => exact e
  | step _ ih => exact toPy_up _ _ _ ih
theorem told60 {k : Nat} {d : D} (h : plainOk k d = true) (hk : k ≤ 58) : ∃ d', (∀ s, g_plain k [d] s = .ok d' s) ∧ ∀ s, ∃ p, toPy s 60 d' = some p := by
  obtain ⟨d', h1, h2⟩ := told k d h
  exact ⟨d', h1, fun s => let ⟨p, hp⟩ := h2 s; ⟨p, toPy_le (by omega) hp⟩⟩
theorem w_eq_self {d : D} {s : S} {Q : D → S → Prop} (h : ∀ s, ∃ p, toPy s 60 d = some p) : wp (dEq d d s) Q = Q (.bl true) s := by
  obtain ⟨p, hp⟩ := h s
  rw [eq_self hp, wp_ok]
theorem w_ne_self {d : D} {s : S} {Q : D → S → Prop} (h : ∀ s, ∃ p, toPy s 60 d = some p) : wp (dNe d d s) Q = Q (.bl false) s := by
  obtain ⟨p, hp⟩ := h s
  rw [ne_self hp, wp_ok]
end
end Pm
namespace K00
open PySem PySem.Spec PyProof.Rows L2 Pm
noncomputable section
def top (i : Nat) : Stmt := PySem.Challenge.pw_gluebridge_k00_number_recipes.main.body.getD i (.Pass ⟨0, 0, 0, 0⟩)
abbrev s_law_deck : Stmt := (top 26)
abbrev s_law_take : Stmt := (top 27)
abbrev s_law_spot : Stmt := (top 29)
abbrev s_law_amount : Stmt := (top 30)
abbrev s_law_order : Stmt := (top 31)
abbrev s_law_orders : Stmt := (top 32)
abbrev s_shape_of : Stmt := (top 21)
abbrev s_fits : Stmt := (top 20)
abbrev s_allowed : Stmt := (top 22)
abbrev s_check_orders : Stmt := (top 23)
abbrev s_NumberRecipe_init : Stmt := (inClass (top 24) 0)
abbrev s_law_datum : Stmt := (top 34)
abbrev s_law_plain : Stmt := (top 28)
abbrev s_law_run : Stmt := (top 33)
abbrev s_calculate : Stmt := (top 3)
abbrev s_skipped : Stmt := (top 4)
abbrev s_execute : Stmt := (top 5)
abbrev s_number_image : Stmt := (top 6)
abbrev s_number_path : Stmt := (top 7)
abbrev s_code_image : Stmt := (top 8)
abbrev s_law_asked : Stmt := (top 35)
abbrev s_law : Stmt := (top 36)
def d_BODY_ORDERS : D := (.dic [("sign", (.str "lk")), ("echo", (.str "")), ("keep", (.str "")), ("kept", (.str "lk")), ("pay", (.str "")), ("write", (.str "w")), ("raise", (.str "f")), ("lower", (.str "f")), ("up", (.str "fk")), ("down", (.str "fk")), ("skip", (.str "k")), ("next", (.str "")), ("lose", (.str ""))])
def c_BODY_ORDERS : ME := mC d_BODY_ORDERS
def d_BOUNDS : D := (.dic [("r", (.int 8)), ("f", (.int 4))])
def c_BOUNDS : ME := mC d_BOUNDS
def d_FINISH_ORDERS : D := (.dic [("kept", (.str "lk")), ("pay", (.str "")), ("write", (.str "w")), ("raise", (.str "f")), ("lower", (.str "f")), ("up", (.str "fk")), ("down", (.str "fk")), ("skip", (.str "k")), ("next", (.str "")), ("lose", (.str ""))])
def c_FINISH_ORDERS : ME := mC d_FINISH_ORDERS
def d_MOST_DIVISOR : D := (.int 6)
def c_MOST_DIVISOR : ME := mC d_MOST_DIVISOR
def d_MOST_ORDERS : D := (.int 400)
def c_MOST_ORDERS : ME := mC d_MOST_ORDERS
def d_NUMBER_ORDERS : D := (.dic [("put", (.str "rn")), ("copy", (.str "rr")), ("add", (.str "rrr")), ("times", (.str "rrn")), ("over", (.str "rd")), ("rest", (.str "rd")), ("less", (.str "rrk")), ("same", (.str "rrk")), ("skip", (.str "k")), ("answer", (.str "r")), ("lose", (.str ""))])
def c_NUMBER_ORDERS : ME := mC d_NUMBER_ORDERS
def d_REGISTERS : D := (.int 8)
def c_REGISTERS : ME := mC d_REGISTERS
/-- _law_deck: 0 script, 1 cells, 2 each, 3 deck, 4 seed, 5 k, 6 cell, 7 rest, 8 at -/
def m_law_deck : MS := (ssCons (sSet 3 (mN dNew aNil))
  (ssCons (sSet 4 (m2 dAdd (mC (.int 7)) (mN dLen (aCons (mVar 0) aNil))))
  (ssCons (sFor (iRange1 (mVar 1)) (gSlot 5)
  (ssCons (sSet 6 (mC (.int 0)))
  (ssCons (sIf (tBool (m2 dLt (mVar 5) (mN dLen (aCons (mVar 0) aNil))))
  (sSet 6 (m2 dIx (mVar 0) (mVar 5)))
  ssNil)
  (ssCons (sSet 7 (mN dAbs (aCons (mVar 6) aNil)))
  (sIf (tBool (m2 dGe (mVar 7) (m2 dPow (mC (.int 10)) (mC (.int 30)))))
  (sFor (iRange1 (mVar 2)) (gSlot 8)
  (ssCons (sExpr (mMt "list" dAppend (mVar 3) (aCons (m2 dMod (mN dInt (aCons (mVar 7) aNil)) (mC (.int 1000003))) aNil)))
  (sSet 7 (m2 dFdiv (mVar 7) (mC (.int 1000003))))))
  (ssCons (sSet 4 (m2 dMod (mN dInt (aCons (m2 dAdd (m2 dAdd (m2 dAdd (m2 dMul (mVar 4) (mC (.int 48271))) (m2 dMul (mC (.int 2)) (mVar 7))) (mN dInt (aCons (m2 dLt (mVar 6) (mC (.int 0))) aNil))) (mVar 5)) aNil)) (mC (.int 2147483647))))
  (sFor (iRange1 (mVar 2)) (gSlot 8)
  (ssCons (sSet 4 (m2 dMod (mN dInt (aCons (m2 dAdd (m2 dAdd (m2 dMul (mVar 4) (mC (.int 69621))) (mVar 8)) (mC (.int 1))) aNil)) (mC (.int 2147483629))))
  (sExpr (mMt "list" dAppend (mVar 3) (aCons (m2 dMod (mN dInt (aCons (m2 dFdiv (mVar 4) (mC (.int 5))) aNil)) (mC (.int 1000003))) aNil)))))))))))
  (ssCons (sExpr (mMt "list" dReverse (mVar 3) aNil))
  (sRet (mVar 3))))))
def f_law_deck : List D → S → R D := mkFn 3 9 m_law_deck
theorem ar_law_deck : ∀ ds s, ds.length ≠ 3 → f_law_deck ds s = .bad := mkFn_arity
/-- _law_take: 0 deck, 1 many -/
def m_law_take : MS := (ssCons (sIf (tBool (m2 dEq (mN dLen (aCons (mVar 0) aNil)) (mC (.int 0))))
  (sRet (mC (.int 0)))
  ssNil)
  (sRet (m2 dMod (mN dInt (aCons (mMt "list" dPop (mVar 0) aNil) aNil)) (mVar 1))))
def f_law_take : List D → S → R D := mkFn 2 2 m_law_take
theorem ar_law_take : ∀ ds s, ds.length ≠ 2 → f_law_take ds s = .bad := mkFn_arity
/-- _law_spot: 0 deck -/
def m_law_spot : MS := (sRet (m2 dIx (mN dLst (aCons (mC (.int 0)) (aCons (mC (.int 1)) (aCons (mC (.int 2)) (aCons (mC (.int 3)) (aCons (mC (.int 1)) (aCons (mC (.int 2)) (aCons (mC (.int 3)) (aCons (mN f_law_take (aCons (mVar 0) (aCons (mC (.int 8)) aNil))) aNil))))))))) (mN f_law_take (aCons (mVar 0) (aCons (mC (.int 8)) aNil)))))
def f_law_spot : List D → S → R D := mkFn 1 1 m_law_spot
theorem ar_law_spot : ∀ ds s, ds.length ≠ 1 → f_law_spot ds s = .bad := mkFn_arity
/-- _law_amount: 0 deck, 1 small -/
def m_law_amount : MS := (ssCons (sSet 1 (m2 dSub (mN f_law_take (aCons (mVar 0) (aCons (mC (.int 9)) aNil))) (mC (.int 4))))
  (sRet (m2 dIx (mN dLst (aCons (mVar 1) (aCons (mVar 1) (aCons (m2 dSub (mN f_law_take (aCons (mVar 0) (aCons (mC (.int 61)) aNil))) (mC (.int 30))) (aCons (m2 dAdd (m2 dMul (mVar 1) (m2 dPow (mC (.int 10)) (mC (.int 9)))) (mN f_law_take (aCons (mVar 0) (aCons (mC (.int 99)) aNil)))) aNil))))) (mN f_law_take (aCons (mVar 0) (aCons (mC (.int 4)) aNil))))))
def f_law_amount : List D → S → R D := mkFn 1 2 m_law_amount
theorem ar_law_amount : ∀ ds s, ds.length ≠ 1 → f_law_amount ds s = .bad := mkFn_arity
/-- _law_order: 0 deck, 1 behind, 2 divisors, 3 words, 4 word, 5 spots, 6 skips -/
def m_law_order : MS := (ssCons (sSet 3 (mMt "str" dSplit (mC (.str "put put copy add add times over over rest rest less less less same same skip answer lose")) (aCons (mC (.str " ")) aNil)))
  (ssCons (sSet 4 (m2 dIx (mVar 3) (mN f_law_take (aCons (mVar 0) (aCons (mC (.int 18)) aNil)))))
  (ssCons (sSet 5 (mN dLst (aCons (mN f_law_spot (aCons (mVar 0) aNil)) (aCons (mN f_law_spot (aCons (mVar 0) aNil)) (aCons (mN f_law_spot (aCons (mVar 0) aNil)) aNil)))))
  (ssCons (sSet 6 (mN dMin2 (aCons (mVar 1) (aCons (m2 dIx (mN dLst (aCons (mC (.int 0)) (aCons (mC (.int 1)) (aCons (mC (.int 1)) (aCons (mC (.int 2)) (aCons (mC (.int 3)) (aCons (mN f_law_take (aCons (mVar 0) (aCons (mC (.int 9)) aNil))) aNil))))))) (mN f_law_take (aCons (mVar 0) (aCons (mC (.int 6)) aNil)))) aNil))))
  (ssCons (sIf (tBool (m2 dEq (mVar 4) (mC (.str "put"))))
  (sRet (mN dTup (aCons (mVar 4) (aCons (m2 dIx (mVar 5) (mC (.int 0))) (aCons (mN f_law_amount (aCons (mVar 0) aNil)) aNil)))))
  ssNil)
  (ssCons (sIf (tBool (m2 dEq (mVar 4) (mC (.str "times"))))
  (sRet (mN dTup (aCons (mVar 4) (aCons (m2 dIx (mVar 5) (mC (.int 0))) (aCons (m2 dIx (mVar 5) (mC (.int 1))) (aCons (m2 dSub (mN f_law_take (aCons (mVar 0) (aCons (mC (.int 7)) aNil))) (mC (.int 3))) aNil))))))
  ssNil)
  (ssCons (sIf (tBool (m2 dIn (mVar 4) (mN dLst (aCons (mC (.str "over")) (aCons (mC (.str "rest")) aNil)))))
  (sRet (mN dTup (aCons (mVar 4) (aCons (m2 dIx (mVar 5) (mC (.int 0))) (aCons (m2 dIx (mVar 2) (mN f_law_take (aCons (mVar 0) (aCons (mN dLen (aCons (mVar 2) aNil)) aNil)))) aNil)))))
  ssNil)
  (ssCons (sIf (tBool (m2 dIn (mVar 4) (mN dLst (aCons (mC (.str "less")) (aCons (mC (.str "same")) aNil)))))
  (sRet (mN dTup (aCons (mVar 4) (aCons (m2 dIx (mVar 5) (mC (.int 0))) (aCons (m2 dIx (mVar 5) (mC (.int 1))) (aCons (mVar 6) aNil))))))
  ssNil)
  (ssCons (sIf (tBool (m2 dEq (mVar 4) (mC (.str "skip"))))
  (sRet (mN dTup (aCons (mVar 4) (aCons (mVar 6) aNil))))
  ssNil)
  (ssCons (sIf (tAnd2 (tBool (m2 dIn (mVar 4) (mN dLst (aCons (mC (.str "answer")) (aCons (mC (.str "lose")) aNil))))) (tBool (m2 dEq (mN f_law_take (aCons (mVar 0) (aCons (mC (.int 2)) aNil))) (mC (.int 0)))))
  (sRet (m2 dIx (mN dLst (aCons (mN dTup (aCons (mC (.str "answer")) (aCons (m2 dIx (mVar 5) (mC (.int 0))) aNil))) (aCons (mN dTup (aCons (mC (.str "lose")) aNil)) aNil))) (mN dInt (aCons (m2 dEq (mVar 4) (mC (.str "lose"))) aNil))))
  ssNil)
  (sRet (m2 dIx (mN dLst (aCons (mN dTup (aCons (mC (.str "copy")) (aCons (m2 dIx (mVar 5) (mC (.int 0))) (aCons (m2 dIx (mVar 5) (mC (.int 1))) aNil)))) (aCons (mN dTup (aCons (mC (.str "add")) (aCons (m2 dIx (mVar 5) (mC (.int 0))) (aCons (m2 dIx (mVar 5) (mC (.int 1))) (aCons (m2 dIx (mVar 5) (mC (.int 2))) aNil))))) aNil))) (mN dInt (aCons (m2 dEq (mVar 4) (mC (.str "add"))) aNil))))))))))))))
def f_law_order : List D → S → R D := mkFn 3 7 m_law_order
theorem ar_law_order : ∀ ds s, ds.length ≠ 3 → f_law_order ds s = .bad := mkFn_arity
/-- _law_orders: 0 deck, 1 size, 2 divisors, 3 orders, 4 at -/
def m_law_orders : MS := (ssCons (sSet 1 (m2 dIx (mN dLst (aCons (mN f_law_take (aCons (mVar 0) (aCons (mC (.int 6)) aNil))) (aCons (m2 dAdd (mC (.int 4)) (mN f_law_take (aCons (mVar 0) (aCons (mC (.int 12)) aNil)))) (aCons (m2 dAdd (mC (.int 8)) (mN f_law_take (aCons (mVar 0) (aCons (mC (.int 24)) aNil)))) aNil)))) (mN f_law_take (aCons (mVar 0) (aCons (mC (.int 3)) aNil)))))
  (ssCons (sSet 2 (m2 dIx (mN dLst (aCons (mN dLst (aCons (mC (.int 1)) (aCons (mC (.int 2)) aNil))) (aCons (mN dLst (aCons (mC (.int 2)) (aCons (mC (.int 3)) aNil))) (aCons (mN dLst (aCons (mC (.int 4)) aNil)) (aCons (mN dLst (aCons (mC (.int 5)) (aCons (mC (.int 2)) aNil))) (aCons (mN dLst (aCons (mC (.int 6)) (aCons (mC (.int 3)) aNil))) (aCons (mN dLst (aCons (mC (.int 1)) (aCons (mC (.int 2)) (aCons (mC (.int 3)) (aCons (mC (.int 4)) (aCons (mC (.int 5)) (aCons (mC (.int 6)) aNil))))))) aNil))))))) (mN f_law_take (aCons (mVar 0) (aCons (mC (.int 6)) aNil)))))
  (ssCons (sSet 3 (mLc (iRange1 (mVar 1)) (gSlot 4) tAll (mN f_law_order (aCons (mVar 0) (aCons (m2 dSub (mVar 1) (mVar 4)) (aCons (mVar 2) aNil)))) [4]))
  (sRet (m2 dAdd (mVar 3) (mN dLst (aCons (mN dTup (aCons (mC (.str "answer")) (aCons (mN f_law_spot (aCons (mVar 0) aNil)) aNil))) aNil)))))))
def f_law_orders : List D → S → R D := mkFn 1 5 m_law_orders
theorem ar_law_orders : ∀ ds s, ds.length ≠ 1 → f_law_orders ds s = .bad := mkFn_arity
/-- shape_of: 0 part, 1 word -/
def m_shape_of : MS := (ssCons (sIf (tBool (m2 dEq (mVar 0) (mC (.str "orders"))))
  (sRet (mGet c_NUMBER_ORDERS (mVar 1)))
  ssNil)
  (ssCons (sIf (tBool (m2 dEq (mVar 0) (mC (.str "body"))))
  (sRet (mGet c_BODY_ORDERS (mVar 1)))
  ssNil)
  (sRet (mGet c_FINISH_ORDERS (mVar 1)))))
def f_shape_of : List D → S → R D := mkFn 2 2 m_shape_of
theorem ar_shape_of : ∀ ds s, ds.length ≠ 2 → f_shape_of ds s = .bad := mkFn_arity
/-- fits: 0 letter, 1 operand, 2 behind, 3 letters -/
def m_fits : MS := (ssCons (sIf (tBool (m2 dIn (mVar 0) c_BOUNDS))
  (sRet (mChain dLe dLt (mC (.int 0)) (mVar 1) (m2 dIx c_BOUNDS (mVar 0))))
  ssNil)
  (ssCons (sIf (tBool (m2 dEq (mVar 0) (mC (.str "d"))))
  (sRet (mChain dLe dLe (mC (.int 1)) (mVar 1) c_MOST_DIVISOR))
  ssNil)
  (ssCons (sIf (tBool (m2 dEq (mVar 0) (mC (.str "k"))))
  (sRet (mChain dLe dLe (mC (.int 0)) (mVar 1) (mVar 2)))
  ssNil)
  (ssCons (sIf (tBool (m2 dEq (mVar 0) (mC (.str "l"))))
  (sRet (mAnd (m2 dEq (mN dLen (aCons (mVar 1) aNil)) (mC (.int 1))) (m2 dIn (mVar 1) (mVar 3))))
  ssNil)
  (sRet (mC (.bl true)))))))
def f_fits : List D → S → R D := mkFn 4 4 m_fits
theorem ar_fits : ∀ ds s, ds.length ≠ 4 → f_fits ds s = .bad := mkFn_arity
/-- allowed: 0 order, 1 part, 2 behind, 3 letters, 4 shape, 5 letter, 6 operand -/
def m_allowed : MS := (ssCons (sIf (tBool (m2 dEq (mN dLen (aCons (mVar 0) aNil)) (mC (.int 0))))
  (sRet (mC (.bl false)))
  ssNil)
  (ssCons (sSet 4 (mN f_shape_of (aCons (mVar 1) (aCons (m2 dIx (mVar 0) (mC (.int 0))) aNil))))
  (ssCons (sIf (tOr2 (tBool (m2 dIs (mVar 4) (mC .non))) (tBool (m2 dNe (mN dLen (aCons (mVar 0) aNil)) (m2 dAdd (mN dLen (aCons (mVar 4) aNil)) (mC (.int 1))))))
  (sRet (mC (.bl false)))
  ssNil)
  (ssCons (sFor (iZipD (mVar 4) (mSl (mVar 0) (oSome (mC (.int 1))) oNone)) (gTupD 2 (gsCons (gSlot 5) (gsCons (gSlot 6) gsNil)))
  (sIf (tNot1 (tTru dTru (mN f_fits (aCons (mVar 5) (aCons (mVar 6) (aCons (mVar 2) (aCons (mVar 3) aNil)))))))
  (sRet (mC (.bl false)))
  ssNil))
  (sRet (mC (.bl true)))))))
def f_allowed : List D → S → R D := mkFn 4 7 m_allowed
theorem ar_allowed : ∀ ds s, ds.length ≠ 4 → f_allowed ds s = .bad := mkFn_arity
/-- check_orders: 0 part, 1 orders, 2 letters, 3 at -/
def m_check_orders : MS := (sFor (iRange1 (mN dLen (aCons (mVar 1) aNil))) (gSlot 3)
  (sIf (tNot1 (tTru dTru (mN f_allowed (aCons (m2 dIx (mVar 1) (mVar 3)) (aCons (mVar 0) (aCons (m2 dSub (m2 dSub (mN dLen (aCons (mVar 1) aNil)) (mVar 3)) (mC (.int 1))) (aCons (mVar 2) aNil)))))))
  sNever
  ssNil))
def f_check_orders : List D → S → R D := mkFn 3 4 m_check_orders
theorem ar_check_orders : ∀ ds s, ds.length ≠ 3 → f_check_orders ds s = .bad := mkFn_arity
/-- NumberRecipe.__init__: 0 self, 1 orders -/
def m_NumberRecipe_init : MS := (ssCons (sIf (tBool (m2 dGt (mN dLen (aCons (mVar 1) aNil)) c_MOST_ORDERS))
  sNever
  ssNil)
  (ssCons (sExpr (mN f_check_orders (aCons (mC (.str "orders")) (aCons (mVar 1) (aCons (mC (.str "")) aNil)))))
  (sFldD "orders" ["NumberRecipe"] (mVar 0) (mN (dList false) (aCons (mVar 1) aNil)))))
def f_NumberRecipe_init : List D → S → R D := mkFn 2 2 m_NumberRecipe_init
theorem ar_NumberRecipe_init : ∀ ds s, ds.length ≠ 2 → f_NumberRecipe_init ds s = .bad := mkFn_arity
/-- _law_datum: 0 deck, 1 small, 2 great -/
def m_law_datum : MS := (ssCons (sSet 1 (m2 dSub (mN f_law_take (aCons (mVar 0) (aCons (mC (.int 31)) aNil))) (mC (.int 15))))
  (ssCons (sSet 2 (m2 dMul (m2 dSub (mN f_law_take (aCons (mVar 0) (aCons (mC (.int 1000003)) aNil))) (mC (.int 500001))) (m2 dIx (mN dLst (aCons (mC (.int 1000)) (aCons (m2 dPow (mC (.int 10)) (mC (.int 6))) (aCons (m2 dPow (mC (.int 10)) (mC (.int 12))) aNil)))) (mN f_law_take (aCons (mVar 0) (aCons (mC (.int 3)) aNil))))))
  (sRet (m2 dIx (mN dLst (aCons (mVar 1) (aCons (m2 dSub (m2 dAdd (m2 dMul (mC (.int 60)) (mVar 1)) (mN f_law_take (aCons (mVar 0) (aCons (mC (.int 3)) aNil)))) (mC (.int 1))) (aCons (mVar 2) (aCons (m2 dAdd (mVar 2) (mVar 1)) aNil))))) (mN f_law_take (aCons (mVar 0) (aCons (mC (.int 4)) aNil)))))))
def f_law_datum : List D → S → R D := mkFn 1 3 m_law_datum
theorem ar_law_datum : ∀ ds s, ds.length ≠ 1 → f_law_datum ds s = .bad := mkFn_arity
/-- _law_plain: 0 value, 1 item -/
def m_law_plain (G : List D → S → R D) : MS := (ssCons (sIf (tTru dTru (mIsi ["tuple", "list"] (mVar 0)))
  (sRet (m2 dAdd (mN dLst (aCons (mIsi ["list"] (mVar 0)) aNil)) (mLc (iAny (mVar 0)) (gSlot 1) tAll (mN G (aCons (mVar 1) aNil)) [1])))
  ssNil)
  (ssCons (sIf (tOr2 (tBool (m2 dIs (mVar 0) (mC .non))) (tTru dTru (mIsi ["bool"] (mVar 0))))
  (sRet (m2 dIx (mN dLst (aCons (mC (.str "None")) (aCons (mC (.str "False")) (aCons (mC (.str "True")) aNil)))) (m2 dAdd (mN dInt (aCons (m2 dIsNot (mVar 0) (mC .non)) aNil)) (mN dInt (aCons (m2 dIs (mVar 0) (mC (.bl true))) aNil)))))
  ssNil)
  (ssCons (sIf (tTru dTru (mIsi ["int", "str"] (mVar 0)))
  (sRet (mN dLst (aCons (mIsi ["str"] (mVar 0)) (aCons (mVar 0) aNil))))
  ssNil)
  (sRet (mC (.str "another"))))))
def fn_law_plain : Nat → List D → S → R D
  | 0 => mkFn 1 2 sNever
  | k + 1 => mkFn 1 2 (m_law_plain (fn_law_plain k))
theorem arn_law_plain : ∀ k ds s, ds.length ≠ 1 → fn_law_plain k ds s = .bad
  | 0 => mkFn_arity
  | k + 1 => mkFn_arity
def f_law_plain : List D → S → R D := fn_law_plain 8
theorem ar_law_plain : ∀ ds s, ds.length ≠ 1 → f_law_plain ds s = .bad := arn_law_plain _
/-- _law_run: 0 orders, 1 number, 2 held, 3 path, 4 tests, 5 at, 6 turn, 7 order, 8 word, 9 gap -/
def m_law_run : MS := (ssCons (sSet 2 (mN dNew (aCons (mVar 1) (aCons (mC (.int 0)) (aCons (mC (.int 0)) (aCons (mC (.int 0)) (aCons (mC (.int 0)) (aCons (mC (.int 0)) (aCons (mC (.int 0)) (aCons (mC (.int 0)) aNil))))))))))
  (ssCons (sSet 3 (mN dNew aNil))
  (ssCons (sSet 4 (mN dNew aNil))
  (ssCons (sSet 5 (mC (.int 0)))
  (ssCons (sFor (iRange1 (mN dLen (aCons (mVar 0) aNil))) (gSlot 6)
  (ssCons (sIf (tBool (m2 dGe (mVar 5) (mN dLen (aCons (mVar 0) aNil))))
  (sRet (mN dTup (aCons (mC .non) (aCons (mVar 3) (aCons (mVar 4) aNil)))))
  ssNil)
  (ssCons (sSet 7 (m2 dIx (mVar 0) (mVar 5)))
  (ssCons (sSet 8 (m2 dIx (mVar 7) (mC (.int 0))))
  (ssCons (sExpr (mMt "list" dAppend (mVar 3) (aCons (mVar 5) aNil)))
  (ssCons (sSet 5 (m2 dAdd (mVar 5) (mC (.int 1))))
  (ssCons (sIf (tBool (m2 dEq (mVar 8) (mC (.str "answer"))))
  (sRet (mN dTup (aCons (m2 dIx (mVar 2) (m2 dIx (mVar 7) (mC (.int 1)))) (aCons (mVar 3) (aCons (mVar 4) aNil)))))
  ssNil)
  (ssCons (sIf (tBool (m2 dEq (mVar 8) (mC (.str "lose"))))
  (sRet (mN dTup (aCons (mC .non) (aCons (mVar 3) (aCons (mVar 4) aNil)))))
  ssNil)
  (sIf (tBool (m2 dEq (mVar 8) (mC (.str "put"))))
  (sAsg (m2 dIx (mVar 7) (mC (.int 2))) (gSubD (mVar 2) (m2 dIx (mVar 7) (mC (.int 1)))))
  (sIf (tBool (m2 dEq (mVar 8) (mC (.str "copy"))))
  (sAsg (m2 dIx (mVar 2) (m2 dIx (mVar 7) (mC (.int 2)))) (gSubD (mVar 2) (m2 dIx (mVar 7) (mC (.int 1)))))
  (sIf (tBool (m2 dEq (mVar 8) (mC (.str "add"))))
  (sAsg (m2 dAdd (m2 dIx (mVar 2) (m2 dIx (mVar 7) (mC (.int 2)))) (m2 dIx (mVar 2) (m2 dIx (mVar 7) (mC (.int 3))))) (gSubD (mVar 2) (m2 dIx (mVar 7) (mC (.int 1)))))
  (sIf (tBool (m2 dEq (mVar 8) (mC (.str "times"))))
  (sAsg (m2 dMul (m2 dIx (mVar 2) (m2 dIx (mVar 7) (mC (.int 2)))) (m2 dIx (mVar 7) (mC (.int 3)))) (gSubD (mVar 2) (m2 dIx (mVar 7) (mC (.int 1)))))
  (sIf (tBool (m2 dEq (mVar 8) (mC (.str "over"))))
  (sAsg (m2 dFdiv (m2 dSub (mVar 1) (m2 dMod (mN dInt (aCons (mVar 1) aNil)) (m2 dIx (mVar 7) (mC (.int 2))))) (m2 dIx (mVar 7) (mC (.int 2)))) (gSubD (mVar 2) (m2 dIx (mVar 7) (mC (.int 1)))))
  (sIf (tBool (m2 dEq (mVar 8) (mC (.str "rest"))))
  (sAsg (m2 dMod (mN dInt (aCons (mVar 1) aNil)) (m2 dIx (mVar 7) (mC (.int 2)))) (gSubD (mVar 2) (m2 dIx (mVar 7) (mC (.int 1)))))
  (sIf (tBool (m2 dEq (mVar 8) (mC (.str "skip"))))
  (sSet 5 (m2 dAdd (mVar 5) (m2 dIx (mVar 7) (mC (.int 1)))))
  (ssCons (sSet 9 (m2 dSub (m2 dIx (mVar 2) (m2 dIx (mVar 7) (mC (.int 1)))) (m2 dIx (mVar 2) (m2 dIx (mVar 7) (mC (.int 2))))))
  (ssCons (sExpr (mMt "list" dAppend (mVar 4) (aCons (mN dTup (aCons (m2 dSub (mVar 5) (mC (.int 1))) (aCons (mVar 9) aNil))) aNil)))
  (sIf (tOr2 (tAnd2 (tBool (m2 dNe (mVar 9) (mC (.int 0)))) (tOr2 (tBool (m2 dEq (mVar 8) (mC (.str "same")))) (tBool (m2 dGt (mVar 9) (mC (.int 0)))))) (tAnd2 (tBool (m2 dEq (mVar 9) (mC (.int 0)))) (tBool (m2 dEq (mVar 8) (mC (.str "less"))))))
  (sSet 5 (m2 dAdd (mVar 5) (m2 dIx (mVar 7) (mC (.int 3)))))
  ssNil))))))))))))))))))
  (sRet (mN dTup (aCons (mC .non) (aCons (mVar 3) (aCons (mVar 4) aNil))))))))))
def f_law_run : List D → S → R D := mkFz (mkFn 2 10 m_law_run)
theorem ar_law_run : ∀ ds s, ds.length ≠ 2 → f_law_run ds s = .bad := mkFz_arity mkFn_arity
/-- calculate: 0 order, 1 registers, 2 number, 3 word -/
def m_calculate : MS := (ssCons (sSet 3 (m2 dIx (mVar 0) (mC (.int 0))))
  (sIf (tBool (m2 dEq (mVar 3) (mC (.str "put"))))
  (sAsg (m2 dIx (mVar 0) (mC (.int 2))) (gSubD (mVar 1) (m2 dIx (mVar 0) (mC (.int 1)))))
  (sIf (tBool (m2 dEq (mVar 3) (mC (.str "copy"))))
  (sAsg (m2 dIx (mVar 1) (m2 dIx (mVar 0) (mC (.int 2)))) (gSubD (mVar 1) (m2 dIx (mVar 0) (mC (.int 1)))))
  (sIf (tBool (m2 dEq (mVar 3) (mC (.str "add"))))
  (sAsg (m2 dAdd (m2 dIx (mVar 1) (m2 dIx (mVar 0) (mC (.int 2)))) (m2 dIx (mVar 1) (m2 dIx (mVar 0) (mC (.int 3))))) (gSubD (mVar 1) (m2 dIx (mVar 0) (mC (.int 1)))))
  (sIf (tBool (m2 dEq (mVar 3) (mC (.str "times"))))
  (sAsg (m2 dMul (m2 dIx (mVar 1) (m2 dIx (mVar 0) (mC (.int 2)))) (m2 dIx (mVar 0) (mC (.int 3)))) (gSubD (mVar 1) (m2 dIx (mVar 0) (mC (.int 1)))))
  (sIf (tBool (m2 dEq (mVar 3) (mC (.str "over"))))
  (sAsg (m2 dFdiv (mVar 2) (m2 dIx (mVar 0) (mC (.int 2)))) (gSubD (mVar 1) (m2 dIx (mVar 0) (mC (.int 1)))))
  (sIf (tBool (m2 dEq (mVar 3) (mC (.str "rest"))))
  (sAsg (m2 dMod (mVar 2) (m2 dIx (mVar 0) (mC (.int 2)))) (gSubD (mVar 1) (m2 dIx (mVar 0) (mC (.int 1)))))
  ssNil)))))))
def f_calculate : List D → S → R D := mkFn 3 4 m_calculate
theorem ar_calculate : ∀ ds s, ds.length ≠ 3 → f_calculate ds s = .bad := mkFn_arity
/-- skipped: 0 order, 1 registers -/
def m_skipped : MS := (ssCons (sIf (tBool (m2 dEq (m2 dIx (mVar 0) (mC (.int 0))) (mC (.str "skip"))))
  (sRet (m2 dIx (mVar 0) (mC (.int 1))))
  ssNil)
  (ssCons (sIf (tAnd2 (tBool (m2 dEq (m2 dIx (mVar 0) (mC (.int 0))) (mC (.str "less")))) (tBool (m2 dGe (m2 dIx (mVar 1) (m2 dIx (mVar 0) (mC (.int 1)))) (m2 dIx (mVar 1) (m2 dIx (mVar 0) (mC (.int 2)))))))
  (sRet (m2 dIx (mVar 0) (mC (.int 3))))
  ssNil)
  (ssCons (sIf (tAnd2 (tBool (m2 dEq (m2 dIx (mVar 0) (mC (.int 0))) (mC (.str "same")))) (tBool (m2 dNe (m2 dIx (mVar 1) (m2 dIx (mVar 0) (mC (.int 1)))) (m2 dIx (mVar 1) (m2 dIx (mVar 0) (mC (.int 2)))))))
  (sRet (m2 dIx (mVar 0) (mC (.int 3))))
  ssNil)
  (sRet (mC (.int 0))))))
def f_skipped : List D → S → R D := mkFn 2 2 m_skipped
theorem ar_skipped : ∀ ds s, ds.length ≠ 2 → f_skipped ds s = .bad := mkFn_arity
/-- execute: 0 recipe, 1 number, 2 registers, 3 path, 4 at, 5 order -/
def m_execute : MS := (ssCons (sSet 2 (mRep (aCons (mC (.int 0)) aNil) c_REGISTERS true))
  (ssCons (sAsg (mVar 1) (gSubD (mVar 2) (mC (.int 0))))
  (ssCons (sSet 3 (mN dNew aNil))
  (ssCons (sSet 4 (mC (.int 0)))
  (ssCons (sWhile (tBool (m2 dLt (mVar 4) (mN dLen (aCons (mFld "orders" ["NumberRecipe"] (mVar 0)) aNil))))
  (ssCons (sSet 5 (m2 dIx (mFld "orders" ["NumberRecipe"] (mVar 0)) (mVar 4)))
  (ssCons (sExpr (mMt "list" dAppend (mVar 3) (aCons (mVar 4) aNil)))
  (ssCons (sIf (tBool (m2 dEq (m2 dIx (mVar 5) (mC (.int 0))) (mC (.str "answer"))))
  (sRet (mN dTup (aCons (m2 dIx (mVar 2) (m2 dIx (mVar 5) (mC (.int 1)))) (aCons (mVar 3) aNil))))
  ssNil)
  (ssCons (sIf (tBool (m2 dEq (m2 dIx (mVar 5) (mC (.int 0))) (mC (.str "lose"))))
  (sRet (mN dTup (aCons (mC .non) (aCons (mVar 3) aNil))))
  ssNil)
  (ssCons (sExpr (mN f_calculate (aCons (mVar 5) (aCons (mVar 2) (aCons (mVar 1) aNil)))))
  (sAug 4 dIAdd (m2 dAdd (mC (.int 1)) (mN f_skipped (aCons (mVar 5) (aCons (mVar 2) aNil)))))))))))
  (sRet (mN dTup (aCons (mC .non) (aCons (mVar 3) aNil)))))))))
def f_execute : List D → S → R D := mkFz (mkFn 2 6 m_execute)
theorem ar_execute : ∀ ds s, ds.length ≠ 2 → f_execute ds s = .bad := mkFz_arity mkFn_arity
/-- number_image: 0 recipe, 1 number -/
def m_number_image : MS := (sRet (m2 dIx (mN f_execute (aCons (mVar 0) (aCons (mVar 1) aNil))) (mC (.int 0))))
def f_number_image : List D → S → R D := mkFn 2 2 m_number_image
theorem ar_number_image : ∀ ds s, ds.length ≠ 2 → f_number_image ds s = .bad := mkFn_arity
/-- number_path: 0 recipe, 1 number -/
def m_number_path : MS := (sRet (m2 dIx (mN f_execute (aCons (mVar 0) (aCons (mVar 1) aNil))) (mC (.int 1))))
def f_number_path : List D → S → R D := mkFn 2 2 m_number_path
theorem ar_number_path : ∀ ds s, ds.length ≠ 2 → f_number_path ds s = .bad := mkFn_arity
/-- code_image: 0 recipe, 1 code, 2 image -/
def m_code_image : MS := (ssCons (sIf (tBool (m2 dLt (mVar 1) (mC (.int 0))))
  (sRet (mC .non))
  ssNil)
  (ssCons (sSet 2 (mN f_number_image (aCons (mVar 0) (aCons (mVar 1) aNil))))
  (ssCons (sIf (tOr2 (tBool (m2 dIs (mVar 2) (mC .non))) (tBool (m2 dLt (mVar 2) (mC (.int 0)))))
  (sRet (mC .non))
  ssNil)
  (sRet (mVar 2)))))
def f_code_image : List D → S → R D := mkFn 2 3 m_code_image
theorem ar_code_image : ∀ ds s, ds.length ≠ 2 → f_code_image ds s = .bad := mkFn_arity
/-- _law_asked: 0 recipe, 1 orders, 2 number, 3 image, 4 path, 5 tests, 6 code, 7 told -/
def m_law_asked : MS := (ssCons (sAsg (mN f_law_run (aCons (mVar 1) (aCons (mVar 2) aNil))) (gTupD 3 (gsCons (gSlot 3) (gsCons (gSlot 4) (gsCons (gSlot 5) gsNil)))))
  (ssCons (sSet 6 (mVar 3))
  (ssCons (sIf (tOr2 (tBool (m2 dLt (mVar 2) (mC (.int 0)))) (tAnd2 (tBool (m2 dIsNot (mVar 3) (mC .non))) (tBool (m2 dLt (mVar 3) (mC (.int 0))))))
  (sSet 6 (mC .non))
  ssNil)
  (ssCons (sSet 7 (mN dLst (aCons (mN f_number_image (aCons (mVar 0) (aCons (mVar 2) aNil))) (aCons (mN f_number_path (aCons (mVar 0) (aCons (mVar 2) aNil))) (aCons (mN f_code_image (aCons (mVar 0) (aCons (mVar 2) aNil))) aNil)))))
  (sRet (m2 dEq (mN f_law_plain (aCons (mVar 7) aNil)) (mN f_law_plain (aCons (mN dLst (aCons (mVar 3) (aCons (mVar 4) (aCons (mVar 6) aNil)))) aNil))))))))
def f_law_asked : List D → S → R D := mkFn 3 8 m_law_asked
theorem ar_law_asked : ∀ ds s, ds.length ≠ 3 → f_law_asked ds s = .bad := mkFn_arity
/-- law: 0 script, 1 deck, 2 turn, 3 orders, 4 passed, 5 recipe, 6 data, 7 again, 8 number, 9 at -/
def m_law : MS := (ssCons (sSet 1 (mN f_law_deck (aCons (mVar 0) (aCons (mC (.int 40)) (aCons (mC (.int 14)) aNil)))))
  (ssCons (sFor (iRange1 (mC (.int 2))) (gSlot 2)
  (sCut (ssCons (sSet 3 (mN f_law_orders (aCons (mVar 1) aNil)))
  (ssCons (sSet 4 (mN (dList true) (aCons (mVar 3) aNil)))
  (ssCons (sSet 5 (mFz (mMake "NumberRecipe" f_NumberRecipe_init (aCons (mVar 4) aNil))))
  (ssCons (sSet 6 (mLc (iRange1 (mC (.int 14))) (gSlot 9) tAll (mN f_law_datum (aCons (mVar 1) aNil)) [9]))
  (sFor (iRange1 (mC (.int 2))) (gSlot 7)
  (ssCons (sIf (tBool (m2 dNe (mN f_law_plain (aCons (mFld "orders" ["NumberRecipe"] (mVar 5)) aNil)) (mN f_law_plain (aCons (mVar 3) aNil))))
  (sRet (mC (.bl false)))
  ssNil)
  (ssCons (sFor (iAny (mVar 6)) (gSlot 8)
  (sIf (tNot1 (tTru dTru (mN f_law_asked (aCons (mVar 5) (aCons (mVar 3) (aCons (mVar 8) aNil))))))
  (sRet (mC (.bl false)))
  ssNil))
  (ssCons (sExpr (mMt "list" dAppend (mVar 4) (aCons (mN dTup (aCons (mC (.str "lose")) aNil)) aNil)))
  (sAsg (mN dTup (aCons (mC (.str "lose")) aNil)) (gSubD (mVar 4) (mC (.int 0))))))))))))))
  (sRet (mC (.bl true)))))
def f_law : List D → S → R D := mkFn 1 10 m_law
theorem ar_law : ∀ ds s, ds.length ≠ 1 → f_law ds s = .bad := mkFn_arity
end
end K00
namespace K00
open PySem PySem.Spec PyProof.Rows L2 Pm
noncomputable section
structure Gs where
  a_law_deck : Addr
  fd_law_deck : FuncData
  a_law_take : Addr
  fd_law_take : FuncData
  a_law_spot : Addr
  fd_law_spot : FuncData
  a_law_amount : Addr
  fd_law_amount : FuncData
  a_law_order : Addr
  fd_law_order : FuncData
  a_law_orders : Addr
  fd_law_orders : FuncData
  a_shape_of : Addr
  fd_shape_of : FuncData
  a_fits : Addr
  fd_fits : FuncData
  a_allowed : Addr
  fd_allowed : FuncData
  a_check_orders : Addr
  fd_check_orders : FuncData
  a_NumberRecipe_init : Addr
  fd_NumberRecipe_init : FuncData
  a_law_datum : Addr
  fd_law_datum : FuncData
  a_law_plain : Addr
  fd_law_plain : FuncData
  a_law_run : Addr
  fd_law_run : FuncData
  a_calculate : Addr
  fd_calculate : FuncData
  a_skipped : Addr
  fd_skipped : FuncData
  a_execute : Addr
  fd_execute : FuncData
  a_number_image : Addr
  fd_number_image : FuncData
  a_number_path : Addr
  fd_number_path : FuncData
  a_code_image : Addr
  fd_code_image : FuncData
  a_law_asked : Addr
  fd_law_asked : FuncData
  a_law : Addr
  fd_law : FuncData
  C_NumberRecipe : Addr
structure GOk (w : World) (K : PySem.W.Frag) (mg : Str → Option Value) (cl : Str → Option Addr) (g : Gs) : Prop where
  F_law_deck : Fun K "_law_deck" "_law_deck" s_law_deck g.a_law_deck g.fd_law_deck
  b_law_deck : Binds K g.fd_law_deck ["script", "cells", "each"] []
  k_law_deck : PySem.W.keepIn K (.ref g.a_law_deck) = true
  g_law_deck : mg "_law_deck" = some (.ref g.a_law_deck)
  F_law_take : Fun K "_law_take" "_law_take" s_law_take g.a_law_take g.fd_law_take
  b_law_take : Binds K g.fd_law_take ["deck", "many"] []
  k_law_take : PySem.W.keepIn K (.ref g.a_law_take) = true
  g_law_take : mg "_law_take" = some (.ref g.a_law_take)
  F_law_spot : Fun K "_law_spot" "_law_spot" s_law_spot g.a_law_spot g.fd_law_spot
  b_law_spot : Binds K g.fd_law_spot ["deck"] []
  k_law_spot : PySem.W.keepIn K (.ref g.a_law_spot) = true
  g_law_spot : mg "_law_spot" = some (.ref g.a_law_spot)
  F_law_amount : Fun K "_law_amount" "_law_amount" s_law_amount g.a_law_amount g.fd_law_amount
  b_law_amount : Binds K g.fd_law_amount ["deck"] []
  k_law_amount : PySem.W.keepIn K (.ref g.a_law_amount) = true
  g_law_amount : mg "_law_amount" = some (.ref g.a_law_amount)
  F_law_order : Fun K "_law_order" "_law_order" s_law_order g.a_law_order g.fd_law_order
  b_law_order : Binds K g.fd_law_order ["deck", "behind", "divisors"] []
  k_law_order : PySem.W.keepIn K (.ref g.a_law_order) = true
  g_law_order : mg "_law_order" = some (.ref g.a_law_order)
  F_law_orders : Fun K "_law_orders" "_law_orders" s_law_orders g.a_law_orders g.fd_law_orders
  b_law_orders : Binds K g.fd_law_orders ["deck"] []
  k_law_orders : PySem.W.keepIn K (.ref g.a_law_orders) = true
  g_law_orders : mg "_law_orders" = some (.ref g.a_law_orders)
  F_shape_of : Fun K "shape_of" "shape_of" s_shape_of g.a_shape_of g.fd_shape_of
  b_shape_of : Binds K g.fd_shape_of ["part", "word"] []
  k_shape_of : PySem.W.keepIn K (.ref g.a_shape_of) = true
  g_shape_of : mg "shape_of" = some (.ref g.a_shape_of)
  F_fits : Fun K "fits" "fits" s_fits g.a_fits g.fd_fits
  b_fits : Binds K g.fd_fits ["letter", "operand", "behind", "letters"] []
  k_fits : PySem.W.keepIn K (.ref g.a_fits) = true
  g_fits : mg "fits" = some (.ref g.a_fits)
  F_allowed : Fun K "allowed" "allowed" s_allowed g.a_allowed g.fd_allowed
  b_allowed : Binds K g.fd_allowed ["order", "part", "behind", "letters"] []
  k_allowed : PySem.W.keepIn K (.ref g.a_allowed) = true
  g_allowed : mg "allowed" = some (.ref g.a_allowed)
  F_check_orders : Fun K "check_orders" "check_orders" s_check_orders g.a_check_orders g.fd_check_orders
  b_check_orders : Binds K g.fd_check_orders ["part", "orders", "letters"] []
  k_check_orders : PySem.W.keepIn K (.ref g.a_check_orders) = true
  g_check_orders : mg "check_orders" = some (.ref g.a_check_orders)
  F_NumberRecipe_init : Fun K "__init__" "NumberRecipe.__init__" s_NumberRecipe_init g.a_NumberRecipe_init g.fd_NumberRecipe_init
  b_NumberRecipe_init : Binds K g.fd_NumberRecipe_init ["self", "orders"] []
  k_NumberRecipe_init : PySem.W.keepIn K (.ref g.a_NumberRecipe_init) = true
  F_law_datum : Fun K "_law_datum" "_law_datum" s_law_datum g.a_law_datum g.fd_law_datum
  b_law_datum : Binds K g.fd_law_datum ["deck"] []
  k_law_datum : PySem.W.keepIn K (.ref g.a_law_datum) = true
  g_law_datum : mg "_law_datum" = some (.ref g.a_law_datum)
  F_law_plain : Fun K "_law_plain" "_law_plain" s_law_plain g.a_law_plain g.fd_law_plain
  b_law_plain : Binds K g.fd_law_plain ["value"] []
  k_law_plain : PySem.W.keepIn K (.ref g.a_law_plain) = true
  g_law_plain : mg "_law_plain" = some (.ref g.a_law_plain)
  F_law_run : Fun K "_law_run" "_law_run" s_law_run g.a_law_run g.fd_law_run
  b_law_run : Binds K g.fd_law_run ["orders", "number"] []
  k_law_run : PySem.W.keepIn K (.ref g.a_law_run) = true
  g_law_run : mg "_law_run" = some (.ref g.a_law_run)
  F_calculate : Fun K "calculate" "calculate" s_calculate g.a_calculate g.fd_calculate
  b_calculate : Binds K g.fd_calculate ["order", "registers", "number"] []
  k_calculate : PySem.W.keepIn K (.ref g.a_calculate) = true
  g_calculate : mg "calculate" = some (.ref g.a_calculate)
  F_skipped : Fun K "skipped" "skipped" s_skipped g.a_skipped g.fd_skipped
  b_skipped : Binds K g.fd_skipped ["order", "registers"] []
  k_skipped : PySem.W.keepIn K (.ref g.a_skipped) = true
  g_skipped : mg "skipped" = some (.ref g.a_skipped)
  F_execute : Fun K "execute" "execute" s_execute g.a_execute g.fd_execute
  b_execute : Binds K g.fd_execute ["recipe", "number"] []
  k_execute : PySem.W.keepIn K (.ref g.a_execute) = true
  g_execute : mg "execute" = some (.ref g.a_execute)
  F_number_image : Fun K "number_image" "number_image" s_number_image g.a_number_image g.fd_number_image
  b_number_image : Binds K g.fd_number_image ["recipe", "number"] []
  k_number_image : PySem.W.keepIn K (.ref g.a_number_image) = true
  g_number_image : mg "number_image" = some (.ref g.a_number_image)
  F_number_path : Fun K "number_path" "number_path" s_number_path g.a_number_path g.fd_number_path
  b_number_path : Binds K g.fd_number_path ["recipe", "number"] []
  k_number_path : PySem.W.keepIn K (.ref g.a_number_path) = true
  g_number_path : mg "number_path" = some (.ref g.a_number_path)
  F_code_image : Fun K "code_image" "code_image" s_code_image g.a_code_image g.fd_code_image
  b_code_image : Binds K g.fd_code_image ["recipe", "code"] []
  k_code_image : PySem.W.keepIn K (.ref g.a_code_image) = true
  g_code_image : mg "code_image" = some (.ref g.a_code_image)
  F_law_asked : Fun K "_law_asked" "_law_asked" s_law_asked g.a_law_asked g.fd_law_asked
  b_law_asked : Binds K g.fd_law_asked ["recipe", "orders", "number"] []
  k_law_asked : PySem.W.keepIn K (.ref g.a_law_asked) = true
  g_law_asked : mg "_law_asked" = some (.ref g.a_law_asked)
  F_law : Fun K "law" "law" s_law g.a_law g.fd_law
  b_law : Binds K g.fd_law ["script"] []
  k_law : PySem.W.keepIn K (.ref g.a_law) = true
  g_law : mg "law" = some (.ref g.a_law)
  gc_NumberRecipe : mg "NumberRecipe" = some (.ref g.C_NumberRecipe)
  cl_NumberRecipe : cl "NumberRecipe" = some g.C_NumberRecipe
  cls_NumberRecipe : Cls K g.C_NumberRecipe
  mk_NumberRecipe : Mk K g.C_NumberRecipe g.a_NumberRecipe_init
  na_NumberRecipe_orders : NoAttr K g.C_NumberRecipe "orders"
  n_abs : mg "abs" = none
  n_bool : mg "bool" = none
  n_int : mg "int" = none
  n_isinstance : mg "isinstance" = none
  n_len : mg "len" = none
  n_list : mg "list" = none
  n_min : mg "min" = none
  n_range : mg "range" = none
  n_str : mg "str" = none
  n_tuple : mg "tuple" = none
  n_zip : mg "zip" = none
  v_BODY_ORDERS : ∃ v u, mg "BODY_ORDERS" = some u ∧ RelV v u ∧ ∀ ι H, RelD K w cl ι H d_BODY_ORDERS v
  v_BOUNDS : ∃ v u, mg "BOUNDS" = some u ∧ RelV v u ∧ ∀ ι H, RelD K w cl ι H d_BOUNDS v
  v_FINISH_ORDERS : ∃ v u, mg "FINISH_ORDERS" = some u ∧ RelV v u ∧ ∀ ι H, RelD K w cl ι H d_FINISH_ORDERS v
  v_MOST_DIVISOR : ∃ v u, mg "MOST_DIVISOR" = some u ∧ RelV v u ∧ ∀ ι H, RelD K w cl ι H d_MOST_DIVISOR v
  v_MOST_ORDERS : ∃ v u, mg "MOST_ORDERS" = some u ∧ RelV v u ∧ ∀ ι H, RelD K w cl ι H d_MOST_ORDERS v
  v_NUMBER_ORDERS : ∃ v u, mg "NUMBER_ORDERS" = some u ∧ RelV v u ∧ ∀ ι H, RelD K w cl ι H d_NUMBER_ORDERS v
  v_REGISTERS : ∃ v u, mg "REGISTERS" = some u ∧ RelV v u ∧ ∀ ι H, RelD K w cl ι H d_REGISTERS v
section
variable {P : Program} {w : World} {K : PySem.W.Frag} {mg : Str → Option Value} {base : Heap} {cl : Str → Option Addr} {g : Gs}
theorem GOk.e_BODY_ORDERS {X : Cx} {W : Wish} {pos : Pos} (T : GOk X.w X.K mg cl g) (hg : Gl X "BODY_ORDERS") (hm : X.mg = mg) : SE X cl W (.Name "BODY_ORDERS" pos) c_BODY_ORDERS := by
  obtain ⟨v, u, h1, h2, h3⟩ := T.v_BODY_ORDERS
  exact se_glob hg (by rw [hm]; exact h1) h2 h3
theorem GOk.e_BOUNDS {X : Cx} {W : Wish} {pos : Pos} (T : GOk X.w X.K mg cl g) (hg : Gl X "BOUNDS") (hm : X.mg = mg) : SE X cl W (.Name "BOUNDS" pos) c_BOUNDS := by
  obtain ⟨v, u, h1, h2, h3⟩ := T.v_BOUNDS
  exact se_glob hg (by rw [hm]; exact h1) h2 h3
theorem GOk.e_FINISH_ORDERS {X : Cx} {W : Wish} {pos : Pos} (T : GOk X.w X.K mg cl g) (hg : Gl X "FINISH_ORDERS") (hm : X.mg = mg) : SE X cl W (.Name "FINISH_ORDERS" pos) c_FINISH_ORDERS := by
  obtain ⟨v, u, h1, h2, h3⟩ := T.v_FINISH_ORDERS
  exact se_glob hg (by rw [hm]; exact h1) h2 h3
theorem GOk.e_MOST_DIVISOR {X : Cx} {W : Wish} {pos : Pos} (T : GOk X.w X.K mg cl g) (hg : Gl X "MOST_DIVISOR") (hm : X.mg = mg) : SE X cl W (.Name "MOST_DIVISOR" pos) c_MOST_DIVISOR := by
  obtain ⟨v, u, h1, h2, h3⟩ := T.v_MOST_DIVISOR
  exact se_glob hg (by rw [hm]; exact h1) h2 h3
theorem GOk.e_MOST_ORDERS {X : Cx} {W : Wish} {pos : Pos} (T : GOk X.w X.K mg cl g) (hg : Gl X "MOST_ORDERS") (hm : X.mg = mg) : SE X cl W (.Name "MOST_ORDERS" pos) c_MOST_ORDERS := by
  obtain ⟨v, u, h1, h2, h3⟩ := T.v_MOST_ORDERS
  exact se_glob hg (by rw [hm]; exact h1) h2 h3
theorem GOk.e_NUMBER_ORDERS {X : Cx} {W : Wish} {pos : Pos} (T : GOk X.w X.K mg cl g) (hg : Gl X "NUMBER_ORDERS") (hm : X.mg = mg) : SE X cl W (.Name "NUMBER_ORDERS" pos) c_NUMBER_ORDERS := by
  obtain ⟨v, u, h1, h2, h3⟩ := T.v_NUMBER_ORDERS
  exact se_glob hg (by rw [hm]; exact h1) h2 h3
theorem GOk.e_REGISTERS {X : Cx} {W : Wish} {pos : Pos} (T : GOk X.w X.K mg cl g) (hg : Gl X "REGISTERS") (hm : X.mg = mg) : SE X cl W (.Name "REGISTERS" pos) c_REGISTERS := by
  obtain ⟨v, u, h1, h2, h3⟩ := T.v_REGISTERS
  exact se_glob hg (by rw [hm]; exact h1) h2 h3
theorem sc_law_deck : FnScope ["script", "cells", "each", "deck", "seed", "k", "cell", "rest", "at"] ["script", "cells", "each"] (defScope s_law_deck) := ⟨rfl, rfl, rfl, by decide +kernel, rfl, by decide +kernel, by decide +kernel⟩
theorem ok_law_deck (T : GOk w K mg cl g) : FnOk P w K mg base (L2.CX P w) 1 g.a_law_deck g.fd_law_deck ["script", "cells", "each"] (spD K w cl 3 f_law_deck) := by
  refine fn_ok T.F_law_deck sc_law_deck fun cdv A outer s H E hr => ?_
  exact (ss_cons (ss_set 3 sc_law_deck.nd (se_new sa_nil))
    (ss_cons (ss_set 4 sc_law_deck.nd (se_op d_add se_int (se_callB d_len rfl T.n_len boot_len (sa_cons (se_var 0) sa_nil))))
    (ss_cons (ss_for (passes_of rfl) rfl (si_range1 rfl T.n_range (se_var 1)) (sg_name 5 sc_law_deck.nd) (ss_cons (ss_set 6 sc_law_deck.nd se_int)
    (ss_cons (ss_if (sb_cmp d_lt (se_var 5) (se_callB d_len rfl T.n_len boot_len (sa_cons (se_var 0) sa_nil))) (ss_one (ss_set 6 sc_law_deck.nd (se_ix (se_var 0) (se_var 5)))) ss_nil)
    (ss_cons (ss_set 7 sc_law_deck.nd (se_callB d_abs rfl T.n_abs boot_abs (sa_cons (se_var 6) sa_nil)))
    (ss_one (ss_if (sb_cmp d_ge (se_var 7) (se_op d_pow se_int se_int)) (ss_one (ss_for (passes_of rfl) rfl (si_range1 rfl T.n_range (se_var 2)) (sg_name 8 sc_law_deck.nd) (ss_cons (ss_expr (se_mt PySem.F.plainAttrs_list PySem.F.slot_list_append PySem.F.type_list_append d_append (se_var 3) (sa_cons (se_op d_mod (se_callTy d_int rfl T.n_int boot_int (sa_cons (se_var 7) sa_nil)) se_int) sa_nil)))
    (ss_one (ss_set 7 sc_law_deck.nd (se_op d_fdiv (se_var 7) se_int)))))) (ss_cons (ss_set 4 sc_law_deck.nd (se_op d_mod (se_callTy d_int rfl T.n_int boot_int (sa_cons (se_op d_add (se_op d_add (se_op d_add (se_op d_mul (se_var 4) se_int) (se_op d_mul se_int (se_var 7))) (se_callTy d_int rfl T.n_int boot_int (sa_cons (se_cmp d_lt (se_var 6) se_int) sa_nil))) (se_var 5)) sa_nil)) se_int))
    (ss_one (ss_for (passes_of rfl) rfl (si_range1 rfl T.n_range (se_var 2)) (sg_name 8 sc_law_deck.nd) (ss_cons (ss_set 4 sc_law_deck.nd (se_op d_mod (se_callTy d_int rfl T.n_int boot_int (sa_cons (se_op d_add (se_op d_add (se_op d_mul (se_var 4) se_int) (se_var 8)) se_int) sa_nil)) se_int))
    (ss_one (ss_expr (se_mt PySem.F.plainAttrs_list PySem.F.slot_list_append PySem.F.type_list_append d_append (se_var 3) (sa_cons (se_op d_mod (se_callTy d_int rfl T.n_int boot_int (sa_cons (se_op d_fdiv (se_var 4) se_int) sa_nil)) se_int) sa_nil))))))))))))))
    (ss_cons (ss_expr (se_mt0 PySem.F.plainAttrs_list PySem.F.slot_list_reverse PySem.F.type_list_reverse d_reverse (se_var 3)))
    (ss_one (ss_ret (se_var 3)))))))
theorem sc_law_take : FnScope ["deck", "many"] ["deck", "many"] (defScope s_law_take) := ⟨rfl, rfl, rfl, by decide +kernel, rfl, by decide +kernel, by decide +kernel⟩
theorem ok_law_take (T : GOk w K mg cl g) : FnOk P w K mg base (L2.CX P w) 1 g.a_law_take g.fd_law_take ["deck", "many"] (spD K w cl 2 f_law_take) := by
  refine fn_ok T.F_law_take sc_law_take fun cdv A outer s H E hr => ?_
  exact (ss_cons (ss_if (sb_cmp (d_eq (room_u hr)) (se_callB d_len rfl T.n_len boot_len (sa_cons (se_var 0) sa_nil)) se_int) (ss_one (ss_ret se_int)) ss_nil)
    (ss_one (ss_ret (se_op d_mod (se_callTy d_int rfl T.n_int boot_int (sa_cons (se_mt0 PySem.F.plainAttrs_list PySem.F.slot_list_pop PySem.F.type_list_pop d_pop (se_var 0)) sa_nil)) (se_var 1)))))
theorem sc_law_spot : FnScope ["deck"] ["deck"] (defScope s_law_spot) := ⟨rfl, rfl, rfl, by decide +kernel, rfl, by decide +kernel, by decide +kernel⟩
theorem ok_law_spot (T : GOk w K mg cl g) : FnOk P w K mg base (L2.CX P w) 2 g.a_law_spot g.fd_law_spot ["deck"] (spD K w cl 1 f_law_spot) := by
  refine fn_ok T.F_law_spot sc_law_spot fun cdv A outer s H E hr => ?_
  exact (ss_one (ss_ret (se_ix (se_lst (sa_cons se_int (sa_cons se_int (sa_cons se_int (sa_cons se_int (sa_cons se_int (sa_cons se_int (sa_cons se_int (sa_cons (se_call (takes_of rfl rfl rfl rfl) (ok_law_take T) ar_law_take (hr.mono (by decide)) rfl T.g_law_take T.k_law_take T.b_law_take (sa_cons (se_var 0) (sa_cons se_int sa_nil))) sa_nil))))))))) (se_call (takes_of rfl rfl rfl rfl) (ok_law_take T) ar_law_take (hr.mono (by decide)) rfl T.g_law_take T.k_law_take T.b_law_take (sa_cons (se_var 0) (sa_cons se_int sa_nil))))))
theorem sc_law_amount : FnScope ["deck", "small"] ["deck"] (defScope s_law_amount) := ⟨rfl, rfl, rfl, by decide +kernel, rfl, by decide +kernel, by decide +kernel⟩
theorem ok_law_amount (T : GOk w K mg cl g) : FnOk P w K mg base (L2.CX P w) 2 g.a_law_amount g.fd_law_amount ["deck"] (spD K w cl 1 f_law_amount) := by
  refine fn_ok T.F_law_amount sc_law_amount fun cdv A outer s H E hr => ?_
  exact (ss_cons (ss_set 1 sc_law_amount.nd (se_op d_sub (se_call (takes_of rfl rfl rfl rfl) (ok_law_take T) ar_law_take (hr.mono (by decide)) rfl T.g_law_take T.k_law_take T.b_law_take (sa_cons (se_var 0) (sa_cons se_int sa_nil))) se_int))
    (ss_one (ss_ret (se_ix (se_lst (sa_cons (se_var 1) (sa_cons (se_var 1) (sa_cons (se_op d_sub (se_call (takes_of rfl rfl rfl rfl) (ok_law_take T) ar_law_take (hr.mono (by decide)) rfl T.g_law_take T.k_law_take T.b_law_take (sa_cons (se_var 0) (sa_cons se_int sa_nil))) se_int) (sa_cons (se_op d_add (se_op d_mul (se_var 1) (se_op d_pow se_int se_int)) (se_call (takes_of rfl rfl rfl rfl) (ok_law_take T) ar_law_take (hr.mono (by decide)) rfl T.g_law_take T.k_law_take T.b_law_take (sa_cons (se_var 0) (sa_cons se_int sa_nil)))) sa_nil))))) (se_call (takes_of rfl rfl rfl rfl) (ok_law_take T) ar_law_take (hr.mono (by decide)) rfl T.g_law_take T.k_law_take T.b_law_take (sa_cons (se_var 0) (sa_cons se_int sa_nil)))))))
theorem sc_law_order : FnScope ["deck", "behind", "divisors", "words", "word", "spots", "skips"] ["deck", "behind", "divisors"] (defScope s_law_order) := ⟨rfl, rfl, rfl, by decide +kernel, rfl, by decide +kernel, by decide +kernel⟩
theorem ok_law_order (T : GOk w K mg cl g) : FnOk P w K mg base (L2.CX P w) 3 g.a_law_order g.fd_law_order ["deck", "behind", "divisors"] (spD K w cl 3 f_law_order) := by
  refine fn_ok T.F_law_order sc_law_order fun cdv A outer s H E hr => ?_
  exact (ss_cons (ss_set 3 sc_law_order.nd (se_mt PySem.F.plainAttrs_str PySem.F.slot_str_split PySem.F.type_str_split d_split se_str (sa_cons se_str sa_nil)))
    (ss_cons (ss_set 4 sc_law_order.nd (se_ix (se_var 3) (se_call (takes_of rfl rfl rfl rfl) (ok_law_take T) ar_law_take (hr.mono (by decide)) rfl T.g_law_take T.k_law_take T.b_law_take (sa_cons (se_var 0) (sa_cons se_int sa_nil)))))
    (ss_cons (ss_set 5 sc_law_order.nd (se_lst (sa_cons (se_call (takes_of rfl rfl rfl rfl) (ok_law_spot T) ar_law_spot (hr.mono (by decide)) rfl T.g_law_spot T.k_law_spot T.b_law_spot (sa_cons (se_var 0) sa_nil)) (sa_cons (se_call (takes_of rfl rfl rfl rfl) (ok_law_spot T) ar_law_spot (hr.mono (by decide)) rfl T.g_law_spot T.k_law_spot T.b_law_spot (sa_cons (se_var 0) sa_nil)) (sa_cons (se_call (takes_of rfl rfl rfl rfl) (ok_law_spot T) ar_law_spot (hr.mono (by decide)) rfl T.g_law_spot T.k_law_spot T.b_law_spot (sa_cons (se_var 0) sa_nil)) sa_nil)))))
    (ss_cons (ss_set 6 sc_law_order.nd (se_callB (d_min2 rfl) rfl T.n_min boot_min (sa_cons (se_var 1) (sa_cons (se_ix (se_lst (sa_cons se_int (sa_cons se_int (sa_cons se_int (sa_cons se_int (sa_cons se_int (sa_cons (se_call (takes_of rfl rfl rfl rfl) (ok_law_take T) ar_law_take (hr.mono (by decide)) rfl T.g_law_take T.k_law_take T.b_law_take (sa_cons (se_var 0) (sa_cons se_int sa_nil))) sa_nil))))))) (se_call (takes_of rfl rfl rfl rfl) (ok_law_take T) ar_law_take (hr.mono (by decide)) rfl T.g_law_take T.k_law_take T.b_law_take (sa_cons (se_var 0) (sa_cons se_int sa_nil)))) sa_nil))))
    (ss_cons (ss_if (sb_cmp (d_eq (room_u hr)) (se_var 4) se_str) (ss_one (ss_ret (se_tup (sa_cons (se_var 4) (sa_cons (se_ix (se_var 5) se_int) (sa_cons (se_call (takes_of rfl rfl rfl rfl) (ok_law_amount T) ar_law_amount (hr.mono (by decide)) rfl T.g_law_amount T.k_law_amount T.b_law_amount (sa_cons (se_var 0) sa_nil)) sa_nil)))))) ss_nil)
    (ss_cons (ss_if (sb_cmp (d_eq (room_u hr)) (se_var 4) se_str) (ss_one (ss_ret (se_tup (sa_cons (se_var 4) (sa_cons (se_ix (se_var 5) se_int) (sa_cons (se_ix (se_var 5) se_int) (sa_cons (se_op d_sub (se_call (takes_of rfl rfl rfl rfl) (ok_law_take T) ar_law_take (hr.mono (by decide)) rfl T.g_law_take T.k_law_take T.b_law_take (sa_cons (se_var 0) (sa_cons se_int sa_nil))) se_int) sa_nil))))))) ss_nil)
    (ss_cons (ss_if (sb_cmp (d_in (room_u1 hr)) (se_var 4) (se_lst (sa_cons se_str (sa_cons se_str sa_nil)))) (ss_one (ss_ret (se_tup (sa_cons (se_var 4) (sa_cons (se_ix (se_var 5) se_int) (sa_cons (se_ix (se_var 2) (se_call (takes_of rfl rfl rfl rfl) (ok_law_take T) ar_law_take (hr.mono (by decide)) rfl T.g_law_take T.k_law_take T.b_law_take (sa_cons (se_var 0) (sa_cons (se_callB d_len rfl T.n_len boot_len (sa_cons (se_var 2) sa_nil)) sa_nil)))) sa_nil)))))) ss_nil)
    (ss_cons (ss_if (sb_cmp (d_in (room_u1 hr)) (se_var 4) (se_lst (sa_cons se_str (sa_cons se_str sa_nil)))) (ss_one (ss_ret (se_tup (sa_cons (se_var 4) (sa_cons (se_ix (se_var 5) se_int) (sa_cons (se_ix (se_var 5) se_int) (sa_cons (se_var 6) sa_nil))))))) ss_nil)
    (ss_cons (ss_if (sb_cmp (d_eq (room_u hr)) (se_var 4) se_str) (ss_one (ss_ret (se_tup (sa_cons (se_var 4) (sa_cons (se_var 6) sa_nil))))) ss_nil)
    (ss_cons (ss_if (sb_bool (sw_and (sb_cmp (d_in (room_u1 hr)) (se_var 4) (se_lst (sa_cons se_str (sa_cons se_str sa_nil)))) (sw_and1 (sb_cmp (d_eq (room_u hr)) (se_call (takes_of rfl rfl rfl rfl) (ok_law_take T) ar_law_take (hr.mono (by decide)) rfl T.g_law_take T.k_law_take T.b_law_take (sa_cons (se_var 0) (sa_cons se_int sa_nil))) se_int)))) (ss_one (ss_ret (se_ix (se_lst (sa_cons (se_tup (sa_cons se_str (sa_cons (se_ix (se_var 5) se_int) sa_nil))) (sa_cons (se_tup (sa_cons se_str sa_nil)) sa_nil))) (se_callTy d_int rfl T.n_int boot_int (sa_cons (se_cmp (d_eq (room_u hr)) (se_var 4) se_str) sa_nil))))) ss_nil)
    (ss_one (ss_ret (se_ix (se_lst (sa_cons (se_tup (sa_cons se_str (sa_cons (se_ix (se_var 5) se_int) (sa_cons (se_ix (se_var 5) se_int) sa_nil)))) (sa_cons (se_tup (sa_cons se_str (sa_cons (se_ix (se_var 5) se_int) (sa_cons (se_ix (se_var 5) se_int) (sa_cons (se_ix (se_var 5) se_int) sa_nil))))) sa_nil))) (se_callTy d_int rfl T.n_int boot_int (sa_cons (se_cmp (d_eq (room_u hr)) (se_var 4) se_str) sa_nil)))))))))))))))
theorem sc_law_orders : FnScope ["deck", "size", "divisors", "orders", "at"] ["deck"] (defScope s_law_orders) := ⟨rfl, rfl, rfl, by decide +kernel, rfl, by decide +kernel, by decide +kernel⟩
theorem ok_law_orders (T : GOk w K mg cl g) : FnOk P w K mg base (L2.CX P w) 4 g.a_law_orders g.fd_law_orders ["deck"] (spD K w cl 1 f_law_orders) := by
  refine fn_ok T.F_law_orders sc_law_orders fun cdv A outer s H E hr => ?_
  exact (ss_cons (ss_set 1 sc_law_orders.nd (se_ix (se_lst (sa_cons (se_call (takes_of rfl rfl rfl rfl) (ok_law_take T) ar_law_take (hr.mono (by decide)) rfl T.g_law_take T.k_law_take T.b_law_take (sa_cons (se_var 0) (sa_cons se_int sa_nil))) (sa_cons (se_op d_add se_int (se_call (takes_of rfl rfl rfl rfl) (ok_law_take T) ar_law_take (hr.mono (by decide)) rfl T.g_law_take T.k_law_take T.b_law_take (sa_cons (se_var 0) (sa_cons se_int sa_nil)))) (sa_cons (se_op d_add se_int (se_call (takes_of rfl rfl rfl rfl) (ok_law_take T) ar_law_take (hr.mono (by decide)) rfl T.g_law_take T.k_law_take T.b_law_take (sa_cons (se_var 0) (sa_cons se_int sa_nil)))) sa_nil)))) (se_call (takes_of rfl rfl rfl rfl) (ok_law_take T) ar_law_take (hr.mono (by decide)) rfl T.g_law_take T.k_law_take T.b_law_take (sa_cons (se_var 0) (sa_cons se_int sa_nil)))))
    (ss_cons (ss_set 2 sc_law_orders.nd (se_ix (se_lst (sa_cons (se_lst (sa_cons se_int (sa_cons se_int sa_nil))) (sa_cons (se_lst (sa_cons se_int (sa_cons se_int sa_nil))) (sa_cons (se_lst (sa_cons se_int sa_nil)) (sa_cons (se_lst (sa_cons se_int (sa_cons se_int sa_nil))) (sa_cons (se_lst (sa_cons se_int (sa_cons se_int sa_nil))) (sa_cons (se_lst (sa_cons se_int (sa_cons se_int (sa_cons se_int (sa_cons se_int (sa_cons se_int (sa_cons se_int sa_nil))))))) sa_nil))))))) (se_call (takes_of rfl rfl rfl rfl) (ok_law_take T) ar_law_take (hr.mono (by decide)) rfl T.g_law_take T.k_law_take T.b_law_take (sa_cons (se_var 0) (sa_cons se_int sa_nil)))))
    (ss_cons (ss_setLc 3 rfl sc_law_orders.nd (si_range1 rfl T.n_range (se_var 1)) (own := [("at", 4)]) (blkOk_by (by first | rfl | decide +kernel)) (.name 4 _ (by decide)) (fun _ _ _ _ _ => pg_name (i := 4) sc_law_orders.nd rfl (Or.inl rfl)) (fun _ _ _ _ _ => sp_nil) (fun _ _ _ _ _ => (se_call takes0 (ok_law_order T) ar_law_order (hr.mono (by decide)) rfl T.g_law_order T.k_law_order T.b_law_order (sa_cons (se_var 0) (sa_cons (se_op d_sub (se_var 1) (se_var 4)) (sa_cons (se_var 2) sa_nil))))) rfl)
    (ss_one (ss_ret (se_op d_add (se_var 3) (se_lst (sa_cons (se_tup (sa_cons se_str (sa_cons (se_call (takes_of rfl rfl rfl rfl) (ok_law_spot T) ar_law_spot (hr.mono (by decide)) rfl T.g_law_spot T.k_law_spot T.b_law_spot (sa_cons (se_var 0) sa_nil)) sa_nil))) sa_nil))))))))
theorem sc_shape_of : FnScope ["part", "word"] ["part", "word"] (defScope s_shape_of) := ⟨rfl, rfl, rfl, by decide +kernel, rfl, by decide +kernel, by decide +kernel⟩
theorem ok_shape_of (T : GOk w K mg cl g) : FnOk P w K mg base (L2.CX P w) 1 g.a_shape_of g.fd_shape_of ["part", "word"] (spD K w cl 2 f_shape_of) := by
  refine fn_ok T.F_shape_of sc_shape_of fun cdv A outer s H E hr => ?_
  exact (ss_cons (ss_if (sb_cmp (d_eq (room_u hr)) (se_var 0) se_str) (ss_one (ss_ret (se_get (T.e_NUMBER_ORDERS rfl rfl) (se_var 1)))) ss_nil)
    (ss_cons (ss_if (sb_cmp (d_eq (room_u hr)) (se_var 0) se_str) (ss_one (ss_ret (se_get (T.e_BODY_ORDERS rfl rfl) (se_var 1)))) ss_nil)
    (ss_one (ss_ret (se_get (T.e_FINISH_ORDERS rfl rfl) (se_var 1))))))
theorem sc_fits : FnScope ["letter", "operand", "behind", "letters"] ["letter", "operand", "behind", "letters"] (defScope s_fits) := ⟨rfl, rfl, rfl, by decide +kernel, rfl, by decide +kernel, by decide +kernel⟩
theorem ok_fits (T : GOk w K mg cl g) : FnOk P w K mg base (L2.CX P w) 1 g.a_fits g.fd_fits ["letter", "operand", "behind", "letters"] (spD K w cl 4 f_fits) := by
  refine fn_ok T.F_fits sc_fits fun cdv A outer s H E hr => ?_
  exact (ss_cons (ss_if (sb_cmp (d_in (room_u1 hr)) (se_var 0) (T.e_BOUNDS rfl rfl)) (ss_one (ss_ret (se_chain d_le d_lt se_int (se_var 1) (se_ix (T.e_BOUNDS rfl rfl) (se_var 0))))) ss_nil)
    (ss_cons (ss_if (sb_cmp (d_eq (room_u hr)) (se_var 0) se_str) (ss_one (ss_ret (se_chain d_le d_le se_int (se_var 1) (T.e_MOST_DIVISOR rfl rfl)))) ss_nil)
    (ss_cons (ss_if (sb_cmp (d_eq (room_u hr)) (se_var 0) se_str) (ss_one (ss_ret (se_chain d_le d_le se_int (se_var 1) (se_var 2)))) ss_nil)
    (ss_cons (ss_if (sb_cmp (d_eq (room_u hr)) (se_var 0) se_str) (ss_one (ss_ret (se_and (se_cmp (d_eq (room_u hr)) (se_callB d_len rfl T.n_len boot_len (sa_cons (se_var 1) sa_nil)) se_int) (se_one (se_cmp (d_in (room_u1 hr)) (se_var 1) (se_var 3)))))) ss_nil)
    (ss_one (ss_ret se_bl))))))
theorem sc_allowed : FnScope ["order", "part", "behind", "letters", "shape", "letter", "operand"] ["order", "part", "behind", "letters"] (defScope s_allowed) := ⟨rfl, rfl, rfl, by decide +kernel, rfl, by decide +kernel, by decide +kernel⟩
theorem ok_allowed (T : GOk w K mg cl g) : FnOk P w K mg base (L2.CX P w) 2 g.a_allowed g.fd_allowed ["order", "part", "behind", "letters"] (spD K w cl 4 f_allowed) := by
  refine fn_ok T.F_allowed sc_allowed fun cdv A outer s H E hr => ?_
  exact (ss_cons (ss_if (sb_cmp (d_eq (room_u hr)) (se_callB d_len rfl T.n_len boot_len (sa_cons (se_var 0) sa_nil)) se_int) (ss_one (ss_ret se_bl)) ss_nil)
    (ss_cons (ss_set 4 sc_allowed.nd (se_call (takes_of rfl rfl rfl rfl) (ok_shape_of T) ar_shape_of (hr.mono (by decide)) rfl T.g_shape_of T.k_shape_of T.b_shape_of (sa_cons (se_var 1) (sa_cons (se_ix (se_var 0) se_int) sa_nil))))
    (ss_cons (ss_if (sb_bool (sw_or (sb_cmp d_is (se_var 4) se_non) (sw_or1 (sb_cmp (d_ne (room_u hr)) (se_callB d_len rfl T.n_len boot_len (sa_cons (se_var 0) sa_nil)) (se_op d_add (se_callB d_len rfl T.n_len boot_len (sa_cons (se_var 4) sa_nil)) se_int))))) (ss_one (ss_ret se_bl)) ss_nil)
    (ss_cons (ss_for (passes_of rfl) rfl (si_zip rfl T.n_zip (se_var 4) (se_slice (se_var 0) (so_some se_int) so_none)) (sg_tup rfl (sgs_cons (sg_name 5 sc_allowed.nd) (sgs_cons (sg_name 6 sc_allowed.nd) sgs_nil))) (ss_one (ss_if (sb_not (sb_tru (se_call (takes_of rfl rfl rfl rfl) (ok_fits T) ar_fits (hr.mono (by decide)) rfl T.g_fits T.k_fits T.b_fits (sa_cons (se_var 5) (sa_cons (se_var 6) (sa_cons (se_var 2) (sa_cons (se_var 3) sa_nil))))))) (ss_one (ss_ret se_bl)) ss_nil)))
    (ss_one (ss_ret se_bl))))))
theorem sc_check_orders : FnScope ["part", "orders", "letters", "at"] ["part", "orders", "letters"] (defScope s_check_orders) := ⟨rfl, rfl, rfl, by decide +kernel, rfl, by decide +kernel, by decide +kernel⟩
theorem ok_check_orders (T : GOk w K mg cl g) : FnOk P w K mg base (L2.CX P w) 3 g.a_check_orders g.fd_check_orders ["part", "orders", "letters"] (spD K w cl 3 f_check_orders) := by
  refine fn_ok T.F_check_orders sc_check_orders fun cdv A outer s H E hr => ?_
  exact (ss_one (ss_for (passes_of rfl) rfl (si_range1 rfl T.n_range (se_callB d_len rfl T.n_len boot_len (sa_cons (se_var 1) sa_nil))) (sg_name 3 sc_check_orders.nd) (ss_one (ss_if (sb_not (sb_tru (se_call (takes_of rfl rfl rfl rfl) (ok_allowed T) ar_allowed (hr.mono (by decide)) rfl T.g_allowed T.k_allowed T.b_allowed (sa_cons (se_ix (se_var 1) (se_var 3)) (sa_cons (se_var 0) (sa_cons (se_op d_sub (se_op d_sub (se_callB d_len rfl T.n_len boot_len (sa_cons (se_var 1) sa_nil)) (se_var 3)) se_int) (sa_cons (se_var 2) sa_nil))))))) sss_never ss_nil))))
theorem sc_NumberRecipe_init : FnScope ["self", "orders"] ["self", "orders"] (defScope s_NumberRecipe_init) := ⟨rfl, rfl, rfl, by decide +kernel, rfl, by decide +kernel, by decide +kernel⟩
theorem ok_NumberRecipe_init (T : GOk w K mg cl g) : FnOk P w K mg base (L2.CX P w) 4 g.a_NumberRecipe_init g.fd_NumberRecipe_init ["self", "orders"] (spD K w cl 2 f_NumberRecipe_init) := by
  refine fn_ok T.F_NumberRecipe_init sc_NumberRecipe_init fun cdv A outer s H E hr => ?_
  exact (ss_cons (ss_if (sb_cmp d_gt (se_callB d_len rfl T.n_len boot_len (sa_cons (se_var 1) sa_nil)) (T.e_MOST_ORDERS rfl rfl)) sss_never ss_nil)
    (ss_cons (ss_expr (se_call (takes_of rfl rfl rfl rfl) (ok_check_orders T) ar_check_orders (hr.mono (by decide)) rfl T.g_check_orders T.k_check_orders T.b_check_orders (sa_cons se_str (sa_cons (se_var 1) (sa_cons se_str sa_nil)))))
    (ss_one (ss_fld "orders" ["NumberRecipe"] (na_cons T.cl_NumberRecipe T.na_NumberRecipe_orders na_nil) (se_var 0) (se_callTy (d_list false) rfl T.n_list boot_list (sa_cons (se_var 1) sa_nil))))))
theorem sc_law_datum : FnScope ["deck", "small", "great"] ["deck"] (defScope s_law_datum) := ⟨rfl, rfl, rfl, by decide +kernel, rfl, by decide +kernel, by decide +kernel⟩
theorem ok_law_datum (T : GOk w K mg cl g) : FnOk P w K mg base (L2.CX P w) 2 g.a_law_datum g.fd_law_datum ["deck"] (spD K w cl 1 f_law_datum) := by
  refine fn_ok T.F_law_datum sc_law_datum fun cdv A outer s H E hr => ?_
  exact (ss_cons (ss_set 1 sc_law_datum.nd (se_op d_sub (se_call (takes_of rfl rfl rfl rfl) (ok_law_take T) ar_law_take (hr.mono (by decide)) rfl T.g_law_take T.k_law_take T.b_law_take (sa_cons (se_var 0) (sa_cons se_int sa_nil))) se_int))
    (ss_cons (ss_set 2 sc_law_datum.nd (se_op d_mul (se_op d_sub (se_call (takes_of rfl rfl rfl rfl) (ok_law_take T) ar_law_take (hr.mono (by decide)) rfl T.g_law_take T.k_law_take T.b_law_take (sa_cons (se_var 0) (sa_cons se_int sa_nil))) se_int) (se_ix (se_lst (sa_cons se_int (sa_cons (se_op d_pow se_int se_int) (sa_cons (se_op d_pow se_int se_int) sa_nil)))) (se_call (takes_of rfl rfl rfl rfl) (ok_law_take T) ar_law_take (hr.mono (by decide)) rfl T.g_law_take T.k_law_take T.b_law_take (sa_cons (se_var 0) (sa_cons se_int sa_nil))))))
    (ss_one (ss_ret (se_ix (se_lst (sa_cons (se_var 1) (sa_cons (se_op d_sub (se_op d_add (se_op d_mul se_int (se_var 1)) (se_call (takes_of rfl rfl rfl rfl) (ok_law_take T) ar_law_take (hr.mono (by decide)) rfl T.g_law_take T.k_law_take T.b_law_take (sa_cons (se_var 0) (sa_cons se_int sa_nil)))) se_int) (sa_cons (se_var 2) (sa_cons (se_op d_add (se_var 2) (se_var 1)) sa_nil))))) (se_call (takes_of rfl rfl rfl rfl) (ok_law_take T) ar_law_take (hr.mono (by decide)) rfl T.g_law_take T.k_law_take T.b_law_take (sa_cons (se_var 0) (sa_cons se_int sa_nil))))))))
theorem sc_law_plain : FnScope ["value", "item"] ["value"] (defScope s_law_plain) := ⟨rfl, rfl, rfl, by decide +kernel, rfl, by decide +kernel, by decide +kernel⟩
theorem okb_law_plain {j : Nat} {G : List D → S → R D} (T : GOk w K mg cl g) (OKG : FnOk P w K mg base (L2.CX P w) (j + 1) g.a_law_plain g.fd_law_plain ["value"] (spD K w cl 1 G)) (arG : ∀ ds s, ds.length ≠ 1 → G ds s = .bad) :
    FnOk P w K mg base (L2.CX P w) (j + 1 + 1) g.a_law_plain g.fd_law_plain ["value"] (spD K w cl 1 (mkFn 1 2 (m_law_plain G))) := by
  refine fn_ok T.F_law_plain sc_law_plain fun cdv A outer s H E hr => ?_
  exact (ss_cons (ss_if (sb_tru (se_isiT rfl T.n_isinstance (se_var 0) (.cons (pe_tyn rfl T.n_tuple boot_tuple) rfl (.cons (pe_tyn rfl T.n_list boot_list) rfl .nil)) rfl (by decide))) (ss_one (ss_ret (se_op d_add (se_lst (sa_cons (se_isi1 rfl T.n_isinstance (se_var 0) (pe_tyn rfl T.n_list boot_list) rfl) sa_nil)) (se_lc rfl sc_law_plain.nd (si_any (se_var 0)) (own := [("item", 1)]) (blkOk_by (by first | rfl | decide +kernel)) (.name 1 _ (by decide)) (fun _ _ _ _ _ => pg_name (i := 1) sc_law_plain.nd rfl (Or.inl rfl)) (fun _ _ _ _ _ => sp_nil) (fun _ _ _ _ _ => (se_call takes0 OKG arG hr rfl T.g_law_plain T.k_law_plain T.b_law_plain (sa_cons (se_var 1) sa_nil))))))) ss_nil)
    (ss_cons (ss_if (sb_bool (sw_or (sb_cmp d_is (se_var 0) se_non) (sw_or1 (sb_tru (se_isi1 rfl T.n_isinstance (se_var 0) (pe_tyn rfl T.n_bool boot_bool) rfl))))) (ss_one (ss_ret (se_ix (se_lst (sa_cons se_str (sa_cons se_str (sa_cons se_str sa_nil)))) (se_op d_add (se_callTy d_int rfl T.n_int boot_int (sa_cons (se_cmp d_isnot (se_var 0) se_non) sa_nil)) (se_callTy d_int rfl T.n_int boot_int (sa_cons (se_cmp d_is (se_var 0) se_bl) sa_nil)))))) ss_nil)
    (ss_cons (ss_if (sb_tru (se_isiT rfl T.n_isinstance (se_var 0) (.cons (pe_tyn rfl T.n_int boot_int) rfl (.cons (pe_tyn rfl T.n_str boot_str) rfl .nil)) rfl (by decide))) (ss_one (ss_ret (se_lst (sa_cons (se_isi1 rfl T.n_isinstance (se_var 0) (pe_tyn rfl T.n_str boot_str) rfl) (sa_cons (se_var 0) sa_nil))))) ss_nil)
    (ss_one (ss_ret se_str)))))
theorem okn_law_plain (T : GOk w K mg cl g) : ∀ j : Nat, FnOk P w K mg base (L2.CX P w) (j + 1) g.a_law_plain g.fd_law_plain ["value"] (spD K w cl 1 (fn_law_plain j))
  | 0 => (fn_ok (k := 0) (m := sNever) T.F_law_plain sc_law_plain fun cdv A outer s H E hr => sss_never).mono (by omega)
  | j + 1 => by
    have h := okb_law_plain T (okn_law_plain T j) (arn_law_plain j)
    have e : j + 1 + 1 = j + 1 + 1 := by omega
    rw [e]
    exact h
theorem ok_law_plain (T : GOk w K mg cl g) : FnOk P w K mg base (L2.CX P w) 9 g.a_law_plain g.fd_law_plain ["value"] (spD K w cl 1 f_law_plain) := okn_law_plain T 8
theorem sc_law_run : FnScope ["orders", "number", "held", "path", "tests", "at", "turn", "order", "word", "gap"] ["orders", "number"] (defScope s_law_run) := ⟨rfl, rfl, rfl, by decide +kernel, rfl, by decide +kernel, by decide +kernel⟩
theorem ok_law_run (T : GOk w K mg cl g) : FnOk P w K mg base (L2.CX P w) 1 g.a_law_run g.fd_law_run ["orders", "number"] (spD K w cl 2 f_law_run) := by
  refine fn_frz (fn_ok T.F_law_run sc_law_run fun cdv A outer s H E hr => ?_)
  exact (ss_cons (ss_set 2 sc_law_run.nd (se_new (sa_cons (se_var 1) (sa_cons se_int (sa_cons se_int (sa_cons se_int (sa_cons se_int (sa_cons se_int (sa_cons se_int (sa_cons se_int sa_nil))))))))))
    (ss_cons (ss_set 3 sc_law_run.nd (se_new sa_nil))
    (ss_cons (ss_set 4 sc_law_run.nd (se_new sa_nil))
    (ss_cons (ss_set 5 sc_law_run.nd se_int)
    (ss_cons (ss_for (passes_of rfl) rfl (si_range1 rfl T.n_range (se_callB d_len rfl T.n_len boot_len (sa_cons (se_var 0) sa_nil))) (sg_name 6 sc_law_run.nd) (ss_cons (ss_if (sb_cmp d_ge (se_var 5) (se_callB d_len rfl T.n_len boot_len (sa_cons (se_var 0) sa_nil))) (ss_one (ss_ret (se_tup (sa_cons se_non (sa_cons (se_var 3) (sa_cons (se_var 4) sa_nil)))))) ss_nil)
    (ss_cons (ss_set 7 sc_law_run.nd (se_ix (se_var 0) (se_var 5)))
    (ss_cons (ss_set 8 sc_law_run.nd (se_ix (se_var 7) se_int))
    (ss_cons (ss_expr (se_mt PySem.F.plainAttrs_list PySem.F.slot_list_append PySem.F.type_list_append d_append (se_var 3) (sa_cons (se_var 5) sa_nil)))
    (ss_cons (ss_set 5 sc_law_run.nd (se_op d_add (se_var 5) se_int))
    (ss_cons (ss_if (sb_cmp (d_eq (room_u hr)) (se_var 8) se_str) (ss_one (ss_ret (se_tup (sa_cons (se_ix (se_var 2) (se_ix (se_var 7) se_int)) (sa_cons (se_var 3) (sa_cons (se_var 4) sa_nil)))))) ss_nil)
    (ss_cons (ss_if (sb_cmp (d_eq (room_u hr)) (se_var 8) se_str) (ss_one (ss_ret (se_tup (sa_cons se_non (sa_cons (se_var 3) (sa_cons (se_var 4) sa_nil)))))) ss_nil)
    (ss_one (ss_if (sb_cmp (d_eq (room_u hr)) (se_var 8) se_str) (ss_one (ss_asg (se_ix (se_var 7) se_int) (sg_sub (se_var 2) (se_ix (se_var 7) se_int)))) (ss_one (ss_if (sb_cmp (d_eq (room_u hr)) (se_var 8) se_str) (ss_one (ss_asg (se_ix (se_var 2) (se_ix (se_var 7) se_int)) (sg_sub (se_var 2) (se_ix (se_var 7) se_int)))) (ss_one (ss_if (sb_cmp (d_eq (room_u hr)) (se_var 8) se_str) (ss_one (ss_asg (se_op d_add (se_ix (se_var 2) (se_ix (se_var 7) se_int)) (se_ix (se_var 2) (se_ix (se_var 7) se_int))) (sg_sub (se_var 2) (se_ix (se_var 7) se_int)))) (ss_one (ss_if (sb_cmp (d_eq (room_u hr)) (se_var 8) se_str) (ss_one (ss_asg (se_op d_mul (se_ix (se_var 2) (se_ix (se_var 7) se_int)) (se_ix (se_var 7) se_int)) (sg_sub (se_var 2) (se_ix (se_var 7) se_int)))) (ss_one (ss_if (sb_cmp (d_eq (room_u hr)) (se_var 8) se_str) (ss_one (ss_asg (se_op d_fdiv (se_op d_sub (se_var 1) (se_op d_mod (se_callTy d_int rfl T.n_int boot_int (sa_cons (se_var 1) sa_nil)) (se_ix (se_var 7) se_int))) (se_ix (se_var 7) se_int)) (sg_sub (se_var 2) (se_ix (se_var 7) se_int)))) (ss_one (ss_if (sb_cmp (d_eq (room_u hr)) (se_var 8) se_str) (ss_one (ss_asg (se_op d_mod (se_callTy d_int rfl T.n_int boot_int (sa_cons (se_var 1) sa_nil)) (se_ix (se_var 7) se_int)) (sg_sub (se_var 2) (se_ix (se_var 7) se_int)))) (ss_one (ss_if (sb_cmp (d_eq (room_u hr)) (se_var 8) se_str) (ss_one (ss_set 5 sc_law_run.nd (se_op d_add (se_var 5) (se_ix (se_var 7) se_int)))) (ss_cons (ss_set 9 sc_law_run.nd (se_op d_sub (se_ix (se_var 2) (se_ix (se_var 7) se_int)) (se_ix (se_var 2) (se_ix (se_var 7) se_int))))
    (ss_cons (ss_expr (se_mt PySem.F.plainAttrs_list PySem.F.slot_list_append PySem.F.type_list_append d_append (se_var 4) (sa_cons (se_tup (sa_cons (se_op d_sub (se_var 5) se_int) (sa_cons (se_var 9) sa_nil))) sa_nil)))
    (ss_one (ss_if (sb_bool (sw_or (sb_bool (sw_and (sb_cmp (d_ne (room_u hr)) (se_var 9) se_int) (sw_and1 (sb_bool (sw_or (sb_cmp (d_eq (room_u hr)) (se_var 8) se_str) (sw_or1 (sb_cmp d_gt (se_var 9) se_int))))))) (sw_or1 (sb_bool (sw_and (sb_cmp (d_eq (room_u hr)) (se_var 9) se_int) (sw_and1 (sb_cmp (d_eq (room_u hr)) (se_var 8) se_str))))))) (ss_one (ss_set 5 sc_law_run.nd (se_op d_add (se_var 5) (se_ix (se_var 7) se_int)))) ss_nil))))))))))))))))))))))))))
    (ss_one (ss_ret (se_tup (sa_cons se_non (sa_cons (se_var 3) (sa_cons (se_var 4) sa_nil)))))))))))
theorem sc_calculate : FnScope ["order", "registers", "number", "word"] ["order", "registers", "number"] (defScope s_calculate) := ⟨rfl, rfl, rfl, by decide +kernel, rfl, by decide +kernel, by decide +kernel⟩
theorem ok_calculate (T : GOk w K mg cl g) : FnOk P w K mg base (L2.CX P w) 1 g.a_calculate g.fd_calculate ["order", "registers", "number"] (spD K w cl 3 f_calculate) := by
  refine fn_ok T.F_calculate sc_calculate fun cdv A outer s H E hr => ?_
  exact (ss_cons (ss_set 3 sc_calculate.nd (se_ix (se_var 0) se_int))
    (ss_one (ss_if (sb_cmp (d_eq (room_u hr)) (se_var 3) se_str) (ss_one (ss_asg (se_ix (se_var 0) se_int) (sg_sub (se_var 1) (se_ix (se_var 0) se_int)))) (ss_one (ss_if (sb_cmp (d_eq (room_u hr)) (se_var 3) se_str) (ss_one (ss_asg (se_ix (se_var 1) (se_ix (se_var 0) se_int)) (sg_sub (se_var 1) (se_ix (se_var 0) se_int)))) (ss_one (ss_if (sb_cmp (d_eq (room_u hr)) (se_var 3) se_str) (ss_one (ss_asg (se_op d_add (se_ix (se_var 1) (se_ix (se_var 0) se_int)) (se_ix (se_var 1) (se_ix (se_var 0) se_int))) (sg_sub (se_var 1) (se_ix (se_var 0) se_int)))) (ss_one (ss_if (sb_cmp (d_eq (room_u hr)) (se_var 3) se_str) (ss_one (ss_asg (se_op d_mul (se_ix (se_var 1) (se_ix (se_var 0) se_int)) (se_ix (se_var 0) se_int)) (sg_sub (se_var 1) (se_ix (se_var 0) se_int)))) (ss_one (ss_if (sb_cmp (d_eq (room_u hr)) (se_var 3) se_str) (ss_one (ss_asg (se_op d_fdiv (se_var 2) (se_ix (se_var 0) se_int)) (sg_sub (se_var 1) (se_ix (se_var 0) se_int)))) (ss_one (ss_if (sb_cmp (d_eq (room_u hr)) (se_var 3) se_str) (ss_one (ss_asg (se_op d_mod (se_var 2) (se_ix (se_var 0) se_int)) (sg_sub (se_var 1) (se_ix (se_var 0) se_int)))) ss_nil)))))))))))))
theorem sc_skipped : FnScope ["order", "registers"] ["order", "registers"] (defScope s_skipped) := ⟨rfl, rfl, rfl, by decide +kernel, rfl, by decide +kernel, by decide +kernel⟩
theorem ok_skipped (T : GOk w K mg cl g) : FnOk P w K mg base (L2.CX P w) 1 g.a_skipped g.fd_skipped ["order", "registers"] (spD K w cl 2 f_skipped) := by
  refine fn_ok T.F_skipped sc_skipped fun cdv A outer s H E hr => ?_
  exact (ss_cons (ss_if (sb_cmp (d_eq (room_u hr)) (se_ix (se_var 0) se_int) se_str) (ss_one (ss_ret (se_ix (se_var 0) se_int))) ss_nil)
    (ss_cons (ss_if (sb_bool (sw_and (sb_cmp (d_eq (room_u hr)) (se_ix (se_var 0) se_int) se_str) (sw_and1 (sb_cmp d_ge (se_ix (se_var 1) (se_ix (se_var 0) se_int)) (se_ix (se_var 1) (se_ix (se_var 0) se_int)))))) (ss_one (ss_ret (se_ix (se_var 0) se_int))) ss_nil)
    (ss_cons (ss_if (sb_bool (sw_and (sb_cmp (d_eq (room_u hr)) (se_ix (se_var 0) se_int) se_str) (sw_and1 (sb_cmp (d_ne (room_u hr)) (se_ix (se_var 1) (se_ix (se_var 0) se_int)) (se_ix (se_var 1) (se_ix (se_var 0) se_int)))))) (ss_one (ss_ret (se_ix (se_var 0) se_int))) ss_nil)
    (ss_one (ss_ret se_int)))))
theorem sc_execute : FnScope ["recipe", "number", "registers", "path", "at", "order"] ["recipe", "number"] (defScope s_execute) := ⟨rfl, rfl, rfl, by decide +kernel, rfl, by decide +kernel, by decide +kernel⟩
theorem ok_execute (T : GOk w K mg cl g) : FnOk P w K mg base (L2.CX P w) 2 g.a_execute g.fd_execute ["recipe", "number"] (spD K w cl 2 f_execute) := by
  refine fn_frz (fn_ok T.F_execute sc_execute fun cdv A outer s H E hr => ?_)
  exact (ss_cons (ss_set 2 sc_execute.nd (se_rep true (sa_cons se_int sa_nil) (T.e_REGISTERS rfl rfl)))
    (ss_cons (ss_asg (se_var 1) (sg_sub (se_var 2) se_int))
    (ss_cons (ss_set 3 sc_execute.nd (se_new sa_nil))
    (ss_cons (ss_set 4 sc_execute.nd se_int)
    (ss_cons (ss_while (passes_of rfl) (sb_cmp d_lt (se_var 4) (se_callB d_len rfl T.n_len boot_len (sa_cons (se_fld "orders" ["NumberRecipe"] (na_cons T.cl_NumberRecipe T.na_NumberRecipe_orders na_nil) (se_var 0)) sa_nil))) (ss_cons (ss_set 5 sc_execute.nd (se_ix (se_fld "orders" ["NumberRecipe"] (na_cons T.cl_NumberRecipe T.na_NumberRecipe_orders na_nil) (se_var 0)) (se_var 4)))
    (ss_cons (ss_expr (se_mt PySem.F.plainAttrs_list PySem.F.slot_list_append PySem.F.type_list_append d_append (se_var 3) (sa_cons (se_var 4) sa_nil)))
    (ss_cons (ss_if (sb_cmp (d_eq (room_u hr)) (se_ix (se_var 5) se_int) se_str) (ss_one (ss_ret (se_tup (sa_cons (se_ix (se_var 2) (se_ix (se_var 5) se_int)) (sa_cons (se_var 3) sa_nil))))) ss_nil)
    (ss_cons (ss_if (sb_cmp (d_eq (room_u hr)) (se_ix (se_var 5) se_int) se_str) (ss_one (ss_ret (se_tup (sa_cons se_non (sa_cons (se_var 3) sa_nil))))) ss_nil)
    (ss_cons (ss_expr (se_call (takes_of rfl rfl rfl rfl) (ok_calculate T) ar_calculate (hr.mono (by decide)) rfl T.g_calculate T.k_calculate T.b_calculate (sa_cons (se_var 5) (sa_cons (se_var 2) (sa_cons (se_var 1) sa_nil)))))
    (ss_one (ss_aug 4 sc_execute.nd d_iadd (se_op d_add se_int (se_call (takes_of rfl rfl rfl rfl) (ok_skipped T) ar_skipped (hr.mono (by decide)) rfl T.g_skipped T.k_skipped T.b_skipped (sa_cons (se_var 5) (sa_cons (se_var 2) sa_nil))))))))))))
    (ss_one (ss_ret (se_tup (sa_cons se_non (sa_cons (se_var 3) sa_nil))))))))))
theorem sc_number_image : FnScope ["recipe", "number"] ["recipe", "number"] (defScope s_number_image) := ⟨rfl, rfl, rfl, by decide +kernel, rfl, by decide +kernel, by decide +kernel⟩
theorem ok_number_image (T : GOk w K mg cl g) : FnOk P w K mg base (L2.CX P w) 3 g.a_number_image g.fd_number_image ["recipe", "number"] (spD K w cl 2 f_number_image) := by
  refine fn_ok T.F_number_image sc_number_image fun cdv A outer s H E hr => ?_
  exact (ss_one (ss_ret (se_ix (se_call (takes_of rfl rfl rfl rfl) (ok_execute T) ar_execute (hr.mono (by decide)) rfl T.g_execute T.k_execute T.b_execute (sa_cons (se_var 0) (sa_cons (se_var 1) sa_nil))) se_int)))
theorem sc_number_path : FnScope ["recipe", "number"] ["recipe", "number"] (defScope s_number_path) := ⟨rfl, rfl, rfl, by decide +kernel, rfl, by decide +kernel, by decide +kernel⟩
theorem ok_number_path (T : GOk w K mg cl g) : FnOk P w K mg base (L2.CX P w) 3 g.a_number_path g.fd_number_path ["recipe", "number"] (spD K w cl 2 f_number_path) := by
  refine fn_ok T.F_number_path sc_number_path fun cdv A outer s H E hr => ?_
  exact (ss_one (ss_ret (se_ix (se_call (takes_of rfl rfl rfl rfl) (ok_execute T) ar_execute (hr.mono (by decide)) rfl T.g_execute T.k_execute T.b_execute (sa_cons (se_var 0) (sa_cons (se_var 1) sa_nil))) se_int)))
theorem sc_code_image : FnScope ["recipe", "code", "image"] ["recipe", "code"] (defScope s_code_image) := ⟨rfl, rfl, rfl, by decide +kernel, rfl, by decide +kernel, by decide +kernel⟩
theorem ok_code_image (T : GOk w K mg cl g) : FnOk P w K mg base (L2.CX P w) 4 g.a_code_image g.fd_code_image ["recipe", "code"] (spD K w cl 2 f_code_image) := by
  refine fn_ok T.F_code_image sc_code_image fun cdv A outer s H E hr => ?_
  exact (ss_cons (ss_if (sb_cmp d_lt (se_var 1) se_int) (ss_one (ss_ret se_non)) ss_nil)
    (ss_cons (ss_set 2 sc_code_image.nd (se_call (takes_of rfl rfl rfl rfl) (ok_number_image T) ar_number_image (hr.mono (by decide)) rfl T.g_number_image T.k_number_image T.b_number_image (sa_cons (se_var 0) (sa_cons (se_var 1) sa_nil))))
    (ss_cons (ss_if (sb_bool (sw_or (sb_cmp d_is (se_var 2) se_non) (sw_or1 (sb_cmp d_lt (se_var 2) se_int)))) (ss_one (ss_ret se_non)) ss_nil)
    (ss_one (ss_ret (se_var 2))))))
theorem sc_law_asked : FnScope ["recipe", "orders", "number", "image", "path", "tests", "code", "told"] ["recipe", "orders", "number"] (defScope s_law_asked) := ⟨rfl, rfl, rfl, by decide +kernel, rfl, by decide +kernel, by decide +kernel⟩
theorem ok_law_asked (T : GOk w K mg cl g) : FnOk P w K mg base (L2.CX P w) 10 g.a_law_asked g.fd_law_asked ["recipe", "orders", "number"] (spD K w cl 3 f_law_asked) := by
  refine fn_ok T.F_law_asked sc_law_asked fun cdv A outer s H E hr => ?_
  exact (ss_cons (ss_asg (se_call (takes_of rfl rfl rfl rfl) (ok_law_run T) ar_law_run (hr.mono (by decide)) rfl T.g_law_run T.k_law_run T.b_law_run (sa_cons (se_var 1) (sa_cons (se_var 2) sa_nil))) (sg_tup rfl (sgs_cons (sg_name 3 sc_law_asked.nd) (sgs_cons (sg_name 4 sc_law_asked.nd) (sgs_cons (sg_name 5 sc_law_asked.nd) sgs_nil)))))
    (ss_cons (ss_set 6 sc_law_asked.nd (se_var 3))
    (ss_cons (ss_if (sb_bool (sw_or (sb_cmp d_lt (se_var 2) se_int) (sw_or1 (sb_bool (sw_and (sb_cmp d_isnot (se_var 3) se_non) (sw_and1 (sb_cmp d_lt (se_var 3) se_int))))))) (ss_one (ss_set 6 sc_law_asked.nd se_non)) ss_nil)
    (ss_cons (ss_set 7 sc_law_asked.nd (se_lst (sa_cons (se_call (takes_of rfl rfl rfl rfl) (ok_number_image T) ar_number_image (hr.mono (by decide)) rfl T.g_number_image T.k_number_image T.b_number_image (sa_cons (se_var 0) (sa_cons (se_var 2) sa_nil))) (sa_cons (se_call (takes_of rfl rfl rfl rfl) (ok_number_path T) ar_number_path (hr.mono (by decide)) rfl T.g_number_path T.k_number_path T.b_number_path (sa_cons (se_var 0) (sa_cons (se_var 2) sa_nil))) (sa_cons (se_call (takes_of rfl rfl rfl rfl) (ok_code_image T) ar_code_image (hr.mono (by decide)) rfl T.g_code_image T.k_code_image T.b_code_image (sa_cons (se_var 0) (sa_cons (se_var 2) sa_nil))) sa_nil)))))
    (ss_one (ss_ret (se_cmp (d_eq (room_u hr)) (se_call (takes_of rfl rfl rfl rfl) (ok_law_plain T) ar_law_plain (hr.mono (by decide)) rfl T.g_law_plain T.k_law_plain T.b_law_plain (sa_cons (se_var 7) sa_nil)) (se_call (takes_of rfl rfl rfl rfl) (ok_law_plain T) ar_law_plain (hr.mono (by decide)) rfl T.g_law_plain T.k_law_plain T.b_law_plain (sa_cons (se_lst (sa_cons (se_var 3) (sa_cons (se_var 4) (sa_cons (se_var 6) sa_nil)))) sa_nil)))))))))
theorem sc_law : FnScope ["script", "deck", "turn", "orders", "passed", "recipe", "data", "again", "number", "at"] ["script"] (defScope s_law) := ⟨rfl, rfl, rfl, by decide +kernel, rfl, by decide +kernel, by decide +kernel⟩
theorem ok_law (T : GOk w K mg cl g) : FnOk P w K mg base (L2.CX P w) 11 g.a_law g.fd_law ["script"] (spD K w cl 1 f_law) := by
  refine fn_ok T.F_law sc_law fun cdv A outer s H E hr => ?_
  exact (ss_cons (ss_set 1 sc_law.nd (se_call (takes_of rfl rfl rfl rfl) (ok_law_deck T) ar_law_deck (hr.mono (by decide)) rfl T.g_law_deck T.k_law_deck T.b_law_deck (sa_cons (se_var 0) (sa_cons se_int (sa_cons se_int sa_nil)))))
    (ss_cons (ss_for (passes_of rfl) rfl (si_range1 rfl T.n_range se_int) (sg_name 2 sc_law.nd) (sss_cut (ss_cons (ss_set 3 sc_law.nd (se_call (takes_of rfl rfl rfl rfl) (ok_law_orders T) ar_law_orders (hr.mono (by decide)) rfl T.g_law_orders T.k_law_orders T.b_law_orders (sa_cons (se_var 1) sa_nil)))
    (ss_cons (ss_set 4 sc_law.nd (se_callTy (d_list true) rfl T.n_list boot_list (sa_cons (se_var 3) sa_nil)))
    (ss_cons (ss_set 5 sc_law.nd (se_frz (se_make "NumberRecipe" T.cl_NumberRecipe T.cls_NumberRecipe (takes_of rfl rfl rfl rfl) T.mk_NumberRecipe (ok_NumberRecipe_init T) ar_NumberRecipe_init (hr.mono (by decide)) rfl T.gc_NumberRecipe T.b_NumberRecipe_init (sa_cons (se_var 4) sa_nil))))
    (ss_cons (ss_setLc 6 rfl sc_law.nd (si_range1 rfl T.n_range se_int) (own := [("at", 9)]) (blkOk_by (by first | rfl | decide +kernel)) (.name 9 _ (by decide)) (fun _ _ _ _ _ => pg_name (i := 9) sc_law.nd rfl (Or.inl rfl)) (fun _ _ _ _ _ => sp_nil) (fun _ _ _ _ _ => (se_call takes0 (ok_law_datum T) ar_law_datum (hr.mono (by decide)) rfl T.g_law_datum T.k_law_datum T.b_law_datum (sa_cons (se_var 1) sa_nil))) rfl)
    (ss_one (ss_for (passes_of rfl) rfl (si_range1 rfl T.n_range se_int) (sg_name 7 sc_law.nd) (ss_cons (ss_if (sb_cmp (d_ne (room_u hr)) (se_call (takes_of rfl rfl rfl rfl) (ok_law_plain T) ar_law_plain (hr.mono (by decide)) rfl T.g_law_plain T.k_law_plain T.b_law_plain (sa_cons (se_fld "orders" ["NumberRecipe"] (na_cons T.cl_NumberRecipe T.na_NumberRecipe_orders na_nil) (se_var 5)) sa_nil)) (se_call (takes_of rfl rfl rfl rfl) (ok_law_plain T) ar_law_plain (hr.mono (by decide)) rfl T.g_law_plain T.k_law_plain T.b_law_plain (sa_cons (se_var 3) sa_nil))) (ss_one (ss_ret se_bl)) ss_nil)
    (ss_cons (ss_for (passes_of rfl) rfl (si_any (se_var 6)) (sg_name 8 sc_law.nd) (ss_one (ss_if (sb_not (sb_tru (se_call (takes_of rfl rfl rfl rfl) (ok_law_asked T) ar_law_asked (hr.mono (by decide)) rfl T.g_law_asked T.k_law_asked T.b_law_asked (sa_cons (se_var 5) (sa_cons (se_var 3) (sa_cons (se_var 8) sa_nil)))))) (ss_one (ss_ret se_bl)) ss_nil)))
    (ss_cons (ss_expr (se_mt PySem.F.plainAttrs_list PySem.F.slot_list_append PySem.F.type_list_append d_append (se_var 4) (sa_cons (se_tup (sa_cons se_str sa_nil)) sa_nil)))
    (ss_one (ss_asg (se_tup (sa_cons se_str sa_nil)) (sg_sub (se_var 4) se_int))))))))))))))
    (ss_one (ss_ret se_bl))))
end
theorem all_mk {l : PySem.W.OpenLaw} {w : World} {K : PySem.W.Frag} {h : Heap} {mg : Str → Option Value} {fa : Addr} (X : K.In h) (G : h.Ns mainGlobals mg) (hfa : mg "law" = some (.ref fa))
    {a_law_deck : Addr} {od_law_deck an_law_deck : Option Addr} {sl_law_deck : Array (Option Value)} {oc_law_deck kV_law_deck dc_law_deck pm_law_deck cd_law_deck ct_law_deck : Value}
    {a_law_take : Addr} {od_law_take an_law_take : Option Addr} {sl_law_take : Array (Option Value)} {oc_law_take kV_law_take dc_law_take pm_law_take cd_law_take ct_law_take : Value}
    {a_law_spot : Addr} {od_law_spot an_law_spot : Option Addr} {sl_law_spot : Array (Option Value)} {oc_law_spot kV_law_spot dc_law_spot pm_law_spot cd_law_spot ct_law_spot : Value}
    {a_law_amount : Addr} {od_law_amount an_law_amount : Option Addr} {sl_law_amount : Array (Option Value)} {oc_law_amount kV_law_amount dc_law_amount pm_law_amount cd_law_amount ct_law_amount : Value}
    {a_law_order : Addr} {od_law_order an_law_order : Option Addr} {sl_law_order : Array (Option Value)} {oc_law_order kV_law_order dc_law_order pm_law_order cd_law_order ct_law_order : Value}
    {a_law_orders : Addr} {od_law_orders an_law_orders : Option Addr} {sl_law_orders : Array (Option Value)} {oc_law_orders kV_law_orders dc_law_orders pm_law_orders cd_law_orders ct_law_orders : Value}
    {a_shape_of : Addr} {od_shape_of an_shape_of : Option Addr} {sl_shape_of : Array (Option Value)} {oc_shape_of kV_shape_of dc_shape_of pm_shape_of cd_shape_of ct_shape_of : Value}
    {a_fits : Addr} {od_fits an_fits : Option Addr} {sl_fits : Array (Option Value)} {oc_fits kV_fits dc_fits pm_fits cd_fits ct_fits : Value}
    {a_allowed : Addr} {od_allowed an_allowed : Option Addr} {sl_allowed : Array (Option Value)} {oc_allowed kV_allowed dc_allowed pm_allowed cd_allowed ct_allowed : Value}
    {a_check_orders : Addr} {od_check_orders an_check_orders : Option Addr} {sl_check_orders : Array (Option Value)} {oc_check_orders kV_check_orders dc_check_orders pm_check_orders cd_check_orders ct_check_orders : Value}
    {a_NumberRecipe_init : Addr} {od_NumberRecipe_init an_NumberRecipe_init : Option Addr} {sl_NumberRecipe_init : Array (Option Value)} {oc_NumberRecipe_init kV_NumberRecipe_init dc_NumberRecipe_init pm_NumberRecipe_init cd_NumberRecipe_init ct_NumberRecipe_init : Value}
    {a_law_datum : Addr} {od_law_datum an_law_datum : Option Addr} {sl_law_datum : Array (Option Value)} {oc_law_datum kV_law_datum dc_law_datum pm_law_datum cd_law_datum ct_law_datum : Value}
    {a_law_plain : Addr} {od_law_plain an_law_plain : Option Addr} {sl_law_plain : Array (Option Value)} {oc_law_plain kV_law_plain dc_law_plain pm_law_plain cd_law_plain ct_law_plain : Value}
    {a_law_run : Addr} {od_law_run an_law_run : Option Addr} {sl_law_run : Array (Option Value)} {oc_law_run kV_law_run dc_law_run pm_law_run cd_law_run ct_law_run : Value}
    {a_calculate : Addr} {od_calculate an_calculate : Option Addr} {sl_calculate : Array (Option Value)} {oc_calculate kV_calculate dc_calculate pm_calculate cd_calculate ct_calculate : Value}
    {a_skipped : Addr} {od_skipped an_skipped : Option Addr} {sl_skipped : Array (Option Value)} {oc_skipped kV_skipped dc_skipped pm_skipped cd_skipped ct_skipped : Value}
    {a_execute : Addr} {od_execute an_execute : Option Addr} {sl_execute : Array (Option Value)} {oc_execute kV_execute dc_execute pm_execute cd_execute ct_execute : Value}
    {a_number_image : Addr} {od_number_image an_number_image : Option Addr} {sl_number_image : Array (Option Value)} {oc_number_image kV_number_image dc_number_image pm_number_image cd_number_image ct_number_image : Value}
    {a_number_path : Addr} {od_number_path an_number_path : Option Addr} {sl_number_path : Array (Option Value)} {oc_number_path kV_number_path dc_number_path pm_number_path cd_number_path ct_number_path : Value}
    {a_code_image : Addr} {od_code_image an_code_image : Option Addr} {sl_code_image : Array (Option Value)} {oc_code_image kV_code_image dc_code_image pm_code_image cd_code_image ct_code_image : Value}
    {a_law_asked : Addr} {od_law_asked an_law_asked : Option Addr} {sl_law_asked : Array (Option Value)} {oc_law_asked kV_law_asked dc_law_asked pm_law_asked cd_law_asked ct_law_asked : Value}
    {a_law : Addr} {od_law an_law : Option Addr} {sl_law : Array (Option Value)} {oc_law kV_law dc_law pm_law cd_law ct_law : Value}
    {C_NumberRecipe : Addr}
    {A_BODY_ORDERS : Addr} {n_BODY_ORDERS : Nat}
    {t_BODY_ORDERS_0 : Tok}
    {t_BODY_ORDERS_1 : Tok}
    {t_BODY_ORDERS_2 : Tok}
    {t_BODY_ORDERS_3 : Tok}
    {t_BODY_ORDERS_4 : Tok}
    {t_BODY_ORDERS_5 : Tok}
    {t_BODY_ORDERS_6 : Tok}
    {t_BODY_ORDERS_7 : Tok}
    {t_BODY_ORDERS_8 : Tok}
    {t_BODY_ORDERS_9 : Tok}
    {t_BODY_ORDERS_10 : Tok}
    {t_BODY_ORDERS_11 : Tok}
    {t_BODY_ORDERS_12 : Tok}
    {k_BODY_ORDERS_0 : Tok}
    {k_BODY_ORDERS_1 : Tok}
    {k_BODY_ORDERS_2 : Tok}
    {k_BODY_ORDERS_3 : Tok}
    {k_BODY_ORDERS_4 : Tok}
    {k_BODY_ORDERS_5 : Tok}
    {k_BODY_ORDERS_6 : Tok}
    {k_BODY_ORDERS_7 : Tok}
    {k_BODY_ORDERS_8 : Tok}
    {k_BODY_ORDERS_9 : Tok}
    {k_BODY_ORDERS_10 : Tok}
    {k_BODY_ORDERS_11 : Tok}
    {k_BODY_ORDERS_12 : Tok}
    {A_BOUNDS : Addr} {n_BOUNDS : Nat}
    {t_BOUNDS_0 : Tok}
    {t_BOUNDS_1 : Tok}
    {k_BOUNDS_0 : Tok}
    {k_BOUNDS_1 : Tok}
    {A_FINISH_ORDERS : Addr} {n_FINISH_ORDERS : Nat}
    {t_FINISH_ORDERS_0 : Tok}
    {t_FINISH_ORDERS_1 : Tok}
    {t_FINISH_ORDERS_2 : Tok}
    {t_FINISH_ORDERS_3 : Tok}
    {t_FINISH_ORDERS_4 : Tok}
    {t_FINISH_ORDERS_5 : Tok}
    {t_FINISH_ORDERS_6 : Tok}
    {t_FINISH_ORDERS_7 : Tok}
    {t_FINISH_ORDERS_8 : Tok}
    {t_FINISH_ORDERS_9 : Tok}
    {k_FINISH_ORDERS_0 : Tok}
    {k_FINISH_ORDERS_1 : Tok}
    {k_FINISH_ORDERS_2 : Tok}
    {k_FINISH_ORDERS_3 : Tok}
    {k_FINISH_ORDERS_4 : Tok}
    {k_FINISH_ORDERS_5 : Tok}
    {k_FINISH_ORDERS_6 : Tok}
    {k_FINISH_ORDERS_7 : Tok}
    {k_FINISH_ORDERS_8 : Tok}
    {k_FINISH_ORDERS_9 : Tok}
    {t_MOST_DIVISOR : Tok}
    {t_MOST_ORDERS : Tok}
    {A_NUMBER_ORDERS : Addr} {n_NUMBER_ORDERS : Nat}
    {t_NUMBER_ORDERS_0 : Tok}
    {t_NUMBER_ORDERS_1 : Tok}
    {t_NUMBER_ORDERS_2 : Tok}
    {t_NUMBER_ORDERS_3 : Tok}
    {t_NUMBER_ORDERS_4 : Tok}
    {t_NUMBER_ORDERS_5 : Tok}
    {t_NUMBER_ORDERS_6 : Tok}
    {t_NUMBER_ORDERS_7 : Tok}
    {t_NUMBER_ORDERS_8 : Tok}
    {t_NUMBER_ORDERS_9 : Tok}
    {t_NUMBER_ORDERS_10 : Tok}
    {k_NUMBER_ORDERS_0 : Tok}
    {k_NUMBER_ORDERS_1 : Tok}
    {k_NUMBER_ORDERS_2 : Tok}
    {k_NUMBER_ORDERS_3 : Tok}
    {k_NUMBER_ORDERS_4 : Tok}
    {k_NUMBER_ORDERS_5 : Tok}
    {k_NUMBER_ORDERS_6 : Tok}
    {k_NUMBER_ORDERS_7 : Tok}
    {k_NUMBER_ORDERS_8 : Tok}
    {k_NUMBER_ORDERS_9 : Tok}
    {k_NUMBER_ORDERS_10 : Tok}
    {t_REGISTERS : Tok}
    (n_law_deck : PySem.W.nsIn K mainGlobals "_law_deck" = some (some (.ref a_law_deck)))
    (n_law_take : PySem.W.nsIn K mainGlobals "_law_take" = some (some (.ref a_law_take)))
    (n_law_spot : PySem.W.nsIn K mainGlobals "_law_spot" = some (some (.ref a_law_spot)))
    (n_law_amount : PySem.W.nsIn K mainGlobals "_law_amount" = some (some (.ref a_law_amount)))
    (n_law_order : PySem.W.nsIn K mainGlobals "_law_order" = some (some (.ref a_law_order)))
    (n_law_orders : PySem.W.nsIn K mainGlobals "_law_orders" = some (some (.ref a_law_orders)))
    (n_shape_of : PySem.W.nsIn K mainGlobals "shape_of" = some (some (.ref a_shape_of)))
    (n_fits : PySem.W.nsIn K mainGlobals "fits" = some (some (.ref a_fits)))
    (n_allowed : PySem.W.nsIn K mainGlobals "allowed" = some (some (.ref a_allowed)))
    (n_check_orders : PySem.W.nsIn K mainGlobals "check_orders" = some (some (.ref a_check_orders)))
    (n_law_datum : PySem.W.nsIn K mainGlobals "_law_datum" = some (some (.ref a_law_datum)))
    (n_law_plain : PySem.W.nsIn K mainGlobals "_law_plain" = some (some (.ref a_law_plain)))
    (n_law_run : PySem.W.nsIn K mainGlobals "_law_run" = some (some (.ref a_law_run)))
    (n_calculate : PySem.W.nsIn K mainGlobals "calculate" = some (some (.ref a_calculate)))
    (n_skipped : PySem.W.nsIn K mainGlobals "skipped" = some (some (.ref a_skipped)))
    (n_execute : PySem.W.nsIn K mainGlobals "execute" = some (some (.ref a_execute)))
    (n_number_image : PySem.W.nsIn K mainGlobals "number_image" = some (some (.ref a_number_image)))
    (n_number_path : PySem.W.nsIn K mainGlobals "number_path" = some (some (.ref a_number_path)))
    (n_code_image : PySem.W.nsIn K mainGlobals "code_image" = some (some (.ref a_code_image)))
    (n_law_asked : PySem.W.nsIn K mainGlobals "_law_asked" = some (some (.ref a_law_asked)))
    (n_law : PySem.W.nsIn K mainGlobals "law" = some (some (.ref a_law)))
    (nc_NumberRecipe : PySem.W.nsIn K mainGlobals "NumberRecipe" = some (some (.ref C_NumberRecipe)))
    (l_law_deck : K.lookup a_law_deck = some ⟨oc_law_deck, od_law_deck, .func (PySem.W.fnOf "_law_deck" "_law_deck" (defArgs s_law_deck) (defBody s_law_deck) (defScope s_law_deck) .none kV_law_deck dc_law_deck pm_law_deck an_law_deck cd_law_deck ct_law_deck), sl_law_deck⟩)
    (c_law_deck : PySem.W.codeIn K cd_law_deck "_law_deck" = true)
    (k_law_deck : PySem.W.keepIn K (.ref a_law_deck) = true)
    (l_law_take : K.lookup a_law_take = some ⟨oc_law_take, od_law_take, .func (PySem.W.fnOf "_law_take" "_law_take" (defArgs s_law_take) (defBody s_law_take) (defScope s_law_take) .none kV_law_take dc_law_take pm_law_take an_law_take cd_law_take ct_law_take), sl_law_take⟩)
    (c_law_take : PySem.W.codeIn K cd_law_take "_law_take" = true)
    (k_law_take : PySem.W.keepIn K (.ref a_law_take) = true)
    (l_law_spot : K.lookup a_law_spot = some ⟨oc_law_spot, od_law_spot, .func (PySem.W.fnOf "_law_spot" "_law_spot" (defArgs s_law_spot) (defBody s_law_spot) (defScope s_law_spot) .none kV_law_spot dc_law_spot pm_law_spot an_law_spot cd_law_spot ct_law_spot), sl_law_spot⟩)
    (c_law_spot : PySem.W.codeIn K cd_law_spot "_law_spot" = true)
    (k_law_spot : PySem.W.keepIn K (.ref a_law_spot) = true)
    (l_law_amount : K.lookup a_law_amount = some ⟨oc_law_amount, od_law_amount, .func (PySem.W.fnOf "_law_amount" "_law_amount" (defArgs s_law_amount) (defBody s_law_amount) (defScope s_law_amount) .none kV_law_amount dc_law_amount pm_law_amount an_law_amount cd_law_amount ct_law_amount), sl_law_amount⟩)
    (c_law_amount : PySem.W.codeIn K cd_law_amount "_law_amount" = true)
    (k_law_amount : PySem.W.keepIn K (.ref a_law_amount) = true)
    (l_law_order : K.lookup a_law_order = some ⟨oc_law_order, od_law_order, .func (PySem.W.fnOf "_law_order" "_law_order" (defArgs s_law_order) (defBody s_law_order) (defScope s_law_order) .none kV_law_order dc_law_order pm_law_order an_law_order cd_law_order ct_law_order), sl_law_order⟩)
    (c_law_order : PySem.W.codeIn K cd_law_order "_law_order" = true)
    (k_law_order : PySem.W.keepIn K (.ref a_law_order) = true)
    (l_law_orders : K.lookup a_law_orders = some ⟨oc_law_orders, od_law_orders, .func (PySem.W.fnOf "_law_orders" "_law_orders" (defArgs s_law_orders) (defBody s_law_orders) (defScope s_law_orders) .none kV_law_orders dc_law_orders pm_law_orders an_law_orders cd_law_orders ct_law_orders), sl_law_orders⟩)
    (c_law_orders : PySem.W.codeIn K cd_law_orders "_law_orders" = true)
    (k_law_orders : PySem.W.keepIn K (.ref a_law_orders) = true)
    (l_shape_of : K.lookup a_shape_of = some ⟨oc_shape_of, od_shape_of, .func (PySem.W.fnOf "shape_of" "shape_of" (defArgs s_shape_of) (defBody s_shape_of) (defScope s_shape_of) .none kV_shape_of dc_shape_of pm_shape_of an_shape_of cd_shape_of ct_shape_of), sl_shape_of⟩)
    (c_shape_of : PySem.W.codeIn K cd_shape_of "shape_of" = true)
    (k_shape_of : PySem.W.keepIn K (.ref a_shape_of) = true)
    (l_fits : K.lookup a_fits = some ⟨oc_fits, od_fits, .func (PySem.W.fnOf "fits" "fits" (defArgs s_fits) (defBody s_fits) (defScope s_fits) .none kV_fits dc_fits pm_fits an_fits cd_fits ct_fits), sl_fits⟩)
    (c_fits : PySem.W.codeIn K cd_fits "fits" = true)
    (k_fits : PySem.W.keepIn K (.ref a_fits) = true)
    (l_allowed : K.lookup a_allowed = some ⟨oc_allowed, od_allowed, .func (PySem.W.fnOf "allowed" "allowed" (defArgs s_allowed) (defBody s_allowed) (defScope s_allowed) .none kV_allowed dc_allowed pm_allowed an_allowed cd_allowed ct_allowed), sl_allowed⟩)
    (c_allowed : PySem.W.codeIn K cd_allowed "allowed" = true)
    (k_allowed : PySem.W.keepIn K (.ref a_allowed) = true)
    (l_check_orders : K.lookup a_check_orders = some ⟨oc_check_orders, od_check_orders, .func (PySem.W.fnOf "check_orders" "check_orders" (defArgs s_check_orders) (defBody s_check_orders) (defScope s_check_orders) .none kV_check_orders dc_check_orders pm_check_orders an_check_orders cd_check_orders ct_check_orders), sl_check_orders⟩)
    (c_check_orders : PySem.W.codeIn K cd_check_orders "check_orders" = true)
    (k_check_orders : PySem.W.keepIn K (.ref a_check_orders) = true)
    (at_NumberRecipe_init : PySem.W.findIn K (.ref C_NumberRecipe) "__init__" = some (some (.ref a_NumberRecipe_init)))
    (if_NumberRecipe_init : PySem.W.isFn K (.ref a_NumberRecipe_init) = true)
    (l_NumberRecipe_init : K.lookup a_NumberRecipe_init = some ⟨oc_NumberRecipe_init, od_NumberRecipe_init, .func (PySem.W.fnOf "__init__" "NumberRecipe.__init__" (defArgs s_NumberRecipe_init) (defBody s_NumberRecipe_init) (defScope s_NumberRecipe_init) .none kV_NumberRecipe_init dc_NumberRecipe_init pm_NumberRecipe_init an_NumberRecipe_init cd_NumberRecipe_init ct_NumberRecipe_init), sl_NumberRecipe_init⟩)
    (c_NumberRecipe_init : PySem.W.codeIn K cd_NumberRecipe_init "NumberRecipe.__init__" = true)
    (k_NumberRecipe_init : PySem.W.keepIn K (.ref a_NumberRecipe_init) = true)
    (l_law_datum : K.lookup a_law_datum = some ⟨oc_law_datum, od_law_datum, .func (PySem.W.fnOf "_law_datum" "_law_datum" (defArgs s_law_datum) (defBody s_law_datum) (defScope s_law_datum) .none kV_law_datum dc_law_datum pm_law_datum an_law_datum cd_law_datum ct_law_datum), sl_law_datum⟩)
    (c_law_datum : PySem.W.codeIn K cd_law_datum "_law_datum" = true)
    (k_law_datum : PySem.W.keepIn K (.ref a_law_datum) = true)
    (l_law_plain : K.lookup a_law_plain = some ⟨oc_law_plain, od_law_plain, .func (PySem.W.fnOf "_law_plain" "_law_plain" (defArgs s_law_plain) (defBody s_law_plain) (defScope s_law_plain) .none kV_law_plain dc_law_plain pm_law_plain an_law_plain cd_law_plain ct_law_plain), sl_law_plain⟩)
    (c_law_plain : PySem.W.codeIn K cd_law_plain "_law_plain" = true)
    (k_law_plain : PySem.W.keepIn K (.ref a_law_plain) = true)
    (l_law_run : K.lookup a_law_run = some ⟨oc_law_run, od_law_run, .func (PySem.W.fnOf "_law_run" "_law_run" (defArgs s_law_run) (defBody s_law_run) (defScope s_law_run) .none kV_law_run dc_law_run pm_law_run an_law_run cd_law_run ct_law_run), sl_law_run⟩)
    (c_law_run : PySem.W.codeIn K cd_law_run "_law_run" = true)
    (k_law_run : PySem.W.keepIn K (.ref a_law_run) = true)
    (l_calculate : K.lookup a_calculate = some ⟨oc_calculate, od_calculate, .func (PySem.W.fnOf "calculate" "calculate" (defArgs s_calculate) (defBody s_calculate) (defScope s_calculate) .none kV_calculate dc_calculate pm_calculate an_calculate cd_calculate ct_calculate), sl_calculate⟩)
    (c_calculate : PySem.W.codeIn K cd_calculate "calculate" = true)
    (k_calculate : PySem.W.keepIn K (.ref a_calculate) = true)
    (l_skipped : K.lookup a_skipped = some ⟨oc_skipped, od_skipped, .func (PySem.W.fnOf "skipped" "skipped" (defArgs s_skipped) (defBody s_skipped) (defScope s_skipped) .none kV_skipped dc_skipped pm_skipped an_skipped cd_skipped ct_skipped), sl_skipped⟩)
    (c_skipped : PySem.W.codeIn K cd_skipped "skipped" = true)
    (k_skipped : PySem.W.keepIn K (.ref a_skipped) = true)
    (l_execute : K.lookup a_execute = some ⟨oc_execute, od_execute, .func (PySem.W.fnOf "execute" "execute" (defArgs s_execute) (defBody s_execute) (defScope s_execute) .none kV_execute dc_execute pm_execute an_execute cd_execute ct_execute), sl_execute⟩)
    (c_execute : PySem.W.codeIn K cd_execute "execute" = true)
    (k_execute : PySem.W.keepIn K (.ref a_execute) = true)
    (l_number_image : K.lookup a_number_image = some ⟨oc_number_image, od_number_image, .func (PySem.W.fnOf "number_image" "number_image" (defArgs s_number_image) (defBody s_number_image) (defScope s_number_image) .none kV_number_image dc_number_image pm_number_image an_number_image cd_number_image ct_number_image), sl_number_image⟩)
    (c_number_image : PySem.W.codeIn K cd_number_image "number_image" = true)
    (k_number_image : PySem.W.keepIn K (.ref a_number_image) = true)
    (l_number_path : K.lookup a_number_path = some ⟨oc_number_path, od_number_path, .func (PySem.W.fnOf "number_path" "number_path" (defArgs s_number_path) (defBody s_number_path) (defScope s_number_path) .none kV_number_path dc_number_path pm_number_path an_number_path cd_number_path ct_number_path), sl_number_path⟩)
    (c_number_path : PySem.W.codeIn K cd_number_path "number_path" = true)
    (k_number_path : PySem.W.keepIn K (.ref a_number_path) = true)
    (l_code_image : K.lookup a_code_image = some ⟨oc_code_image, od_code_image, .func (PySem.W.fnOf "code_image" "code_image" (defArgs s_code_image) (defBody s_code_image) (defScope s_code_image) .none kV_code_image dc_code_image pm_code_image an_code_image cd_code_image ct_code_image), sl_code_image⟩)
    (c_code_image : PySem.W.codeIn K cd_code_image "code_image" = true)
    (k_code_image : PySem.W.keepIn K (.ref a_code_image) = true)
    (l_law_asked : K.lookup a_law_asked = some ⟨oc_law_asked, od_law_asked, .func (PySem.W.fnOf "_law_asked" "_law_asked" (defArgs s_law_asked) (defBody s_law_asked) (defScope s_law_asked) .none kV_law_asked dc_law_asked pm_law_asked an_law_asked cd_law_asked ct_law_asked), sl_law_asked⟩)
    (c_law_asked : PySem.W.codeIn K cd_law_asked "_law_asked" = true)
    (k_law_asked : PySem.W.keepIn K (.ref a_law_asked) = true)
    (l_law : K.lookup a_law = some ⟨oc_law, od_law, .func (PySem.W.fnOf "law" "law" (defArgs s_law) (defBody s_law) (defScope s_law) .none kV_law dc_law pm_law an_law cd_law ct_law), sl_law⟩)
    (c_law : PySem.W.codeIn K cd_law "law" = true)
    (k_law : PySem.W.keepIn K (.ref a_law) = true)
    (pg_NumberRecipe : PySem.W.plainGet K C_NumberRecipe Str.empty = true)
    (hd_NumberRecipe : PySem.W.hasDictIn K C_NumberRecipe = true)
    (po_NumberRecipe : PySem.W.plainOver K C_NumberRecipe = true)
    (sa_NumberRecipe : PySem.W.findIn K (.ref C_NumberRecipe) "__setattr__" = some (some (.builtin "object.__setattr__")))
    (mk_NumberRecipe : PySem.W.makesIn K C_NumberRecipe = true)
    (kc_NumberRecipe : PySem.W.keepIn K (.ref C_NumberRecipe) = true)
    (na_NumberRecipe_orders : PySem.W.findIn K (.ref C_NumberRecipe) "orders" = some none)
    (bn_abs : PySem.W.nsIn K mainGlobals "abs" = some none)
    (bn_bool : PySem.W.nsIn K mainGlobals "bool" = some none)
    (bn_int : PySem.W.nsIn K mainGlobals "int" = some none)
    (bn_isinstance : PySem.W.nsIn K mainGlobals "isinstance" = some none)
    (bn_len : PySem.W.nsIn K mainGlobals "len" = some none)
    (bn_list : PySem.W.nsIn K mainGlobals "list" = some none)
    (bn_min : PySem.W.nsIn K mainGlobals "min" = some none)
    (bn_range : PySem.W.nsIn K mainGlobals "range" = some none)
    (bn_str : PySem.W.nsIn K mainGlobals "str" = some none)
    (bn_tuple : PySem.W.nsIn K mainGlobals "tuple" = some none)
    (bn_zip : PySem.W.nsIn K mainGlobals "zip" = some none)
    (g_BODY_ORDERS : PySem.W.nsIn K mainGlobals "BODY_ORDERS" = some (some (.ref A_BODY_ORDERS)))
    (L_BODY_ORDERS : K.lookup A_BODY_ORDERS = some ⟨.type "dict", none, .dict #[⟨PyData.keyHash w.params "sign", .str "sign" k_BODY_ORDERS_0, (.str "lk" t_BODY_ORDERS_0)⟩, ⟨PyData.keyHash w.params "echo", .str "echo" k_BODY_ORDERS_1, (.str "" t_BODY_ORDERS_1)⟩, ⟨PyData.keyHash w.params "keep", .str "keep" k_BODY_ORDERS_2, (.str "" t_BODY_ORDERS_2)⟩, ⟨PyData.keyHash w.params "kept", .str "kept" k_BODY_ORDERS_3, (.str "lk" t_BODY_ORDERS_3)⟩, ⟨PyData.keyHash w.params "pay", .str "pay" k_BODY_ORDERS_4, (.str "" t_BODY_ORDERS_4)⟩, ⟨PyData.keyHash w.params "write", .str "write" k_BODY_ORDERS_5, (.str "w" t_BODY_ORDERS_5)⟩, ⟨PyData.keyHash w.params "raise", .str "raise" k_BODY_ORDERS_6, (.str "f" t_BODY_ORDERS_6)⟩, ⟨PyData.keyHash w.params "lower", .str "lower" k_BODY_ORDERS_7, (.str "f" t_BODY_ORDERS_7)⟩, ⟨PyData.keyHash w.params "up", .str "up" k_BODY_ORDERS_8, (.str "fk" t_BODY_ORDERS_8)⟩, ⟨PyData.keyHash w.params "down", .str "down" k_BODY_ORDERS_9, (.str "fk" t_BODY_ORDERS_9)⟩, ⟨PyData.keyHash w.params "skip", .str "skip" k_BODY_ORDERS_10, (.str "k" t_BODY_ORDERS_10)⟩, ⟨PyData.keyHash w.params "next", .str "next" k_BODY_ORDERS_11, (.str "" t_BODY_ORDERS_11)⟩, ⟨PyData.keyHash w.params "lose", .str "lose" k_BODY_ORDERS_12, (.str "" t_BODY_ORDERS_12)⟩] n_BODY_ORDERS, #[]⟩)
    (lo_BODY_ORDERS : (A_BODY_ORDERS == sysModules) = false)
    (g_BOUNDS : PySem.W.nsIn K mainGlobals "BOUNDS" = some (some (.ref A_BOUNDS)))
    (L_BOUNDS : K.lookup A_BOUNDS = some ⟨.type "dict", none, .dict #[⟨PyData.keyHash w.params "r", .str "r" k_BOUNDS_0, (.int 8 t_BOUNDS_0)⟩, ⟨PyData.keyHash w.params "f", .str "f" k_BOUNDS_1, (.int 4 t_BOUNDS_1)⟩] n_BOUNDS, #[]⟩)
    (lo_BOUNDS : (A_BOUNDS == sysModules) = false)
    (g_FINISH_ORDERS : PySem.W.nsIn K mainGlobals "FINISH_ORDERS" = some (some (.ref A_FINISH_ORDERS)))
    (L_FINISH_ORDERS : K.lookup A_FINISH_ORDERS = some ⟨.type "dict", none, .dict #[⟨PyData.keyHash w.params "kept", .str "kept" k_FINISH_ORDERS_0, (.str "lk" t_FINISH_ORDERS_0)⟩, ⟨PyData.keyHash w.params "pay", .str "pay" k_FINISH_ORDERS_1, (.str "" t_FINISH_ORDERS_1)⟩, ⟨PyData.keyHash w.params "write", .str "write" k_FINISH_ORDERS_2, (.str "w" t_FINISH_ORDERS_2)⟩, ⟨PyData.keyHash w.params "raise", .str "raise" k_FINISH_ORDERS_3, (.str "f" t_FINISH_ORDERS_3)⟩, ⟨PyData.keyHash w.params "lower", .str "lower" k_FINISH_ORDERS_4, (.str "f" t_FINISH_ORDERS_4)⟩, ⟨PyData.keyHash w.params "up", .str "up" k_FINISH_ORDERS_5, (.str "fk" t_FINISH_ORDERS_5)⟩, ⟨PyData.keyHash w.params "down", .str "down" k_FINISH_ORDERS_6, (.str "fk" t_FINISH_ORDERS_6)⟩, ⟨PyData.keyHash w.params "skip", .str "skip" k_FINISH_ORDERS_7, (.str "k" t_FINISH_ORDERS_7)⟩, ⟨PyData.keyHash w.params "next", .str "next" k_FINISH_ORDERS_8, (.str "" t_FINISH_ORDERS_8)⟩, ⟨PyData.keyHash w.params "lose", .str "lose" k_FINISH_ORDERS_9, (.str "" t_FINISH_ORDERS_9)⟩] n_FINISH_ORDERS, #[]⟩)
    (lo_FINISH_ORDERS : (A_FINISH_ORDERS == sysModules) = false)
    (g_MOST_DIVISOR : PySem.W.nsIn K mainGlobals "MOST_DIVISOR" = some (some (.int 6 t_MOST_DIVISOR)))
    (g_MOST_ORDERS : PySem.W.nsIn K mainGlobals "MOST_ORDERS" = some (some (.int 400 t_MOST_ORDERS)))
    (g_NUMBER_ORDERS : PySem.W.nsIn K mainGlobals "NUMBER_ORDERS" = some (some (.ref A_NUMBER_ORDERS)))
    (L_NUMBER_ORDERS : K.lookup A_NUMBER_ORDERS = some ⟨.type "dict", none, .dict #[⟨PyData.keyHash w.params "put", .str "put" k_NUMBER_ORDERS_0, (.str "rn" t_NUMBER_ORDERS_0)⟩, ⟨PyData.keyHash w.params "copy", .str "copy" k_NUMBER_ORDERS_1, (.str "rr" t_NUMBER_ORDERS_1)⟩, ⟨PyData.keyHash w.params "add", .str "add" k_NUMBER_ORDERS_2, (.str "rrr" t_NUMBER_ORDERS_2)⟩, ⟨PyData.keyHash w.params "times", .str "times" k_NUMBER_ORDERS_3, (.str "rrn" t_NUMBER_ORDERS_3)⟩, ⟨PyData.keyHash w.params "over", .str "over" k_NUMBER_ORDERS_4, (.str "rd" t_NUMBER_ORDERS_4)⟩, ⟨PyData.keyHash w.params "rest", .str "rest" k_NUMBER_ORDERS_5, (.str "rd" t_NUMBER_ORDERS_5)⟩, ⟨PyData.keyHash w.params "less", .str "less" k_NUMBER_ORDERS_6, (.str "rrk" t_NUMBER_ORDERS_6)⟩, ⟨PyData.keyHash w.params "same", .str "same" k_NUMBER_ORDERS_7, (.str "rrk" t_NUMBER_ORDERS_7)⟩, ⟨PyData.keyHash w.params "skip", .str "skip" k_NUMBER_ORDERS_8, (.str "k" t_NUMBER_ORDERS_8)⟩, ⟨PyData.keyHash w.params "answer", .str "answer" k_NUMBER_ORDERS_9, (.str "r" t_NUMBER_ORDERS_9)⟩, ⟨PyData.keyHash w.params "lose", .str "lose" k_NUMBER_ORDERS_10, (.str "" t_NUMBER_ORDERS_10)⟩] n_NUMBER_ORDERS, #[]⟩)
    (lo_NUMBER_ORDERS : (A_NUMBER_ORDERS == sysModules) = false)
    (g_REGISTERS : PySem.W.nsIn K mainGlobals "REGISTERS" = some (some (.int 8 t_REGISTERS))) :
    ∃ (fd : FuncData) (cl : Str → Option Addr), (∀ (s : Shared) (v : Value), BindsTo s fd ⟨[v], []⟩ [("script", v)]) ∧ ∀ base : Heap, K.In base → base.Ns mainGlobals mg → FnOk l.prog w K mg base (L2.CX l.prog w) 11 fa fd ["script"] (spD K w cl 1 f_law) := by
  have e := hfa.symm.trans (PySem.W.mg_of X G n_law)
  cases e
  have F_law_deck := fun_mk (st := s_law_deck) l_law_deck c_law_deck k_law_deck
  have b_law_deck := F_law_deck.binds (ps := ["script", "cells", "each"]) fun _ _ _ _ _ _ us hl => match us, hl with | [_, _, _], _ => rfl
  have F_law_take := fun_mk (st := s_law_take) l_law_take c_law_take k_law_take
  have b_law_take := F_law_take.binds (ps := ["deck", "many"]) fun _ _ _ _ _ _ us hl => match us, hl with | [_, _], _ => rfl
  have F_law_spot := fun_mk (st := s_law_spot) l_law_spot c_law_spot k_law_spot
  have b_law_spot := F_law_spot.binds (ps := ["deck"]) fun _ _ _ _ _ _ us hl => match us, hl with | [_], _ => rfl
  have F_law_amount := fun_mk (st := s_law_amount) l_law_amount c_law_amount k_law_amount
  have b_law_amount := F_law_amount.binds (ps := ["deck"]) fun _ _ _ _ _ _ us hl => match us, hl with | [_], _ => rfl
  have F_law_order := fun_mk (st := s_law_order) l_law_order c_law_order k_law_order
  have b_law_order := F_law_order.binds (ps := ["deck", "behind", "divisors"]) fun _ _ _ _ _ _ us hl => match us, hl with | [_, _, _], _ => rfl
  have F_law_orders := fun_mk (st := s_law_orders) l_law_orders c_law_orders k_law_orders
  have b_law_orders := F_law_orders.binds (ps := ["deck"]) fun _ _ _ _ _ _ us hl => match us, hl with | [_], _ => rfl
  have F_shape_of := fun_mk (st := s_shape_of) l_shape_of c_shape_of k_shape_of
  have b_shape_of := F_shape_of.binds (ps := ["part", "word"]) fun _ _ _ _ _ _ us hl => match us, hl with | [_, _], _ => rfl
  have F_fits := fun_mk (st := s_fits) l_fits c_fits k_fits
  have b_fits := F_fits.binds (ps := ["letter", "operand", "behind", "letters"]) fun _ _ _ _ _ _ us hl => match us, hl with | [_, _, _, _], _ => rfl
  have F_allowed := fun_mk (st := s_allowed) l_allowed c_allowed k_allowed
  have b_allowed := F_allowed.binds (ps := ["order", "part", "behind", "letters"]) fun _ _ _ _ _ _ us hl => match us, hl with | [_, _, _, _], _ => rfl
  have F_check_orders := fun_mk (st := s_check_orders) l_check_orders c_check_orders k_check_orders
  have b_check_orders := F_check_orders.binds (ps := ["part", "orders", "letters"]) fun _ _ _ _ _ _ us hl => match us, hl with | [_, _, _], _ => rfl
  have F_NumberRecipe_init := fun_mk (st := s_NumberRecipe_init) l_NumberRecipe_init c_NumberRecipe_init k_NumberRecipe_init
  have b_NumberRecipe_init := F_NumberRecipe_init.binds (ps := ["self", "orders"]) fun _ _ _ _ _ _ us hl => match us, hl with | [_, _], _ => rfl
  have F_law_datum := fun_mk (st := s_law_datum) l_law_datum c_law_datum k_law_datum
  have b_law_datum := F_law_datum.binds (ps := ["deck"]) fun _ _ _ _ _ _ us hl => match us, hl with | [_], _ => rfl
  have F_law_plain := fun_mk (st := s_law_plain) l_law_plain c_law_plain k_law_plain
  have b_law_plain := F_law_plain.binds (ps := ["value"]) fun _ _ _ _ _ _ us hl => match us, hl with | [_], _ => rfl
  have F_law_run := fun_mk (st := s_law_run) l_law_run c_law_run k_law_run
  have b_law_run := F_law_run.binds (ps := ["orders", "number"]) fun _ _ _ _ _ _ us hl => match us, hl with | [_, _], _ => rfl
  have F_calculate := fun_mk (st := s_calculate) l_calculate c_calculate k_calculate
  have b_calculate := F_calculate.binds (ps := ["order", "registers", "number"]) fun _ _ _ _ _ _ us hl => match us, hl with | [_, _, _], _ => rfl
  have F_skipped := fun_mk (st := s_skipped) l_skipped c_skipped k_skipped
  have b_skipped := F_skipped.binds (ps := ["order", "registers"]) fun _ _ _ _ _ _ us hl => match us, hl with | [_, _], _ => rfl
  have F_execute := fun_mk (st := s_execute) l_execute c_execute k_execute
  have b_execute := F_execute.binds (ps := ["recipe", "number"]) fun _ _ _ _ _ _ us hl => match us, hl with | [_, _], _ => rfl
  have F_number_image := fun_mk (st := s_number_image) l_number_image c_number_image k_number_image
  have b_number_image := F_number_image.binds (ps := ["recipe", "number"]) fun _ _ _ _ _ _ us hl => match us, hl with | [_, _], _ => rfl
  have F_number_path := fun_mk (st := s_number_path) l_number_path c_number_path k_number_path
  have b_number_path := F_number_path.binds (ps := ["recipe", "number"]) fun _ _ _ _ _ _ us hl => match us, hl with | [_, _], _ => rfl
  have F_code_image := fun_mk (st := s_code_image) l_code_image c_code_image k_code_image
  have b_code_image := F_code_image.binds (ps := ["recipe", "code"]) fun _ _ _ _ _ _ us hl => match us, hl with | [_, _], _ => rfl
  have F_law_asked := fun_mk (st := s_law_asked) l_law_asked c_law_asked k_law_asked
  have b_law_asked := F_law_asked.binds (ps := ["recipe", "orders", "number"]) fun _ _ _ _ _ _ us hl => match us, hl with | [_, _, _], _ => rfl
  have F_law := fun_mk (st := s_law) l_law c_law k_law
  have b_law := F_law.binds (ps := ["script"]) fun _ _ _ _ _ _ us hl => match us, hl with | [_], _ => rfl
  let cl : Str → Option Addr := fun c => if c = "NumberRecipe" then some C_NumberRecipe else none
  have hcl_NumberRecipe : cl "NumberRecipe" = some C_NumberRecipe := if_pos rfl
  have T : GOk w K mg cl ⟨a_law_deck, _, a_law_take, _, a_law_spot, _, a_law_amount, _, a_law_order, _, a_law_orders, _, a_shape_of, _, a_fits, _, a_allowed, _, a_check_orders, _, a_NumberRecipe_init, _, a_law_datum, _, a_law_plain, _, a_law_run, _, a_calculate, _, a_skipped, _, a_execute, _, a_number_image, _, a_number_path, _, a_code_image, _, a_law_asked, _, fa, _, C_NumberRecipe⟩ := {
    F_law_deck := F_law_deck
    b_law_deck := b_law_deck
    k_law_deck := k_law_deck
    g_law_deck := PySem.W.mg_of X G n_law_deck
    F_law_take := F_law_take
    b_law_take := b_law_take
    k_law_take := k_law_take
    g_law_take := PySem.W.mg_of X G n_law_take
    F_law_spot := F_law_spot
    b_law_spot := b_law_spot
    k_law_spot := k_law_spot
    g_law_spot := PySem.W.mg_of X G n_law_spot
    F_law_amount := F_law_amount
    b_law_amount := b_law_amount
    k_law_amount := k_law_amount
    g_law_amount := PySem.W.mg_of X G n_law_amount
    F_law_order := F_law_order
    b_law_order := b_law_order
    k_law_order := k_law_order
    g_law_order := PySem.W.mg_of X G n_law_order
    F_law_orders := F_law_orders
    b_law_orders := b_law_orders
    k_law_orders := k_law_orders
    g_law_orders := PySem.W.mg_of X G n_law_orders
    F_shape_of := F_shape_of
    b_shape_of := b_shape_of
    k_shape_of := k_shape_of
    g_shape_of := PySem.W.mg_of X G n_shape_of
    F_fits := F_fits
    b_fits := b_fits
    k_fits := k_fits
    g_fits := PySem.W.mg_of X G n_fits
    F_allowed := F_allowed
    b_allowed := b_allowed
    k_allowed := k_allowed
    g_allowed := PySem.W.mg_of X G n_allowed
    F_check_orders := F_check_orders
    b_check_orders := b_check_orders
    k_check_orders := k_check_orders
    g_check_orders := PySem.W.mg_of X G n_check_orders
    F_NumberRecipe_init := F_NumberRecipe_init
    b_NumberRecipe_init := b_NumberRecipe_init
    k_NumberRecipe_init := k_NumberRecipe_init
    F_law_datum := F_law_datum
    b_law_datum := b_law_datum
    k_law_datum := k_law_datum
    g_law_datum := PySem.W.mg_of X G n_law_datum
    F_law_plain := F_law_plain
    b_law_plain := b_law_plain
    k_law_plain := k_law_plain
    g_law_plain := PySem.W.mg_of X G n_law_plain
    F_law_run := F_law_run
    b_law_run := b_law_run
    k_law_run := k_law_run
    g_law_run := PySem.W.mg_of X G n_law_run
    F_calculate := F_calculate
    b_calculate := b_calculate
    k_calculate := k_calculate
    g_calculate := PySem.W.mg_of X G n_calculate
    F_skipped := F_skipped
    b_skipped := b_skipped
    k_skipped := k_skipped
    g_skipped := PySem.W.mg_of X G n_skipped
    F_execute := F_execute
    b_execute := b_execute
    k_execute := k_execute
    g_execute := PySem.W.mg_of X G n_execute
    F_number_image := F_number_image
    b_number_image := b_number_image
    k_number_image := k_number_image
    g_number_image := PySem.W.mg_of X G n_number_image
    F_number_path := F_number_path
    b_number_path := b_number_path
    k_number_path := k_number_path
    g_number_path := PySem.W.mg_of X G n_number_path
    F_code_image := F_code_image
    b_code_image := b_code_image
    k_code_image := k_code_image
    g_code_image := PySem.W.mg_of X G n_code_image
    F_law_asked := F_law_asked
    b_law_asked := b_law_asked
    k_law_asked := k_law_asked
    g_law_asked := PySem.W.mg_of X G n_law_asked
    F_law := F_law
    b_law := b_law
    k_law := k_law
    g_law := PySem.W.mg_of X G n_law
    gc_NumberRecipe := PySem.W.mg_of X G nc_NumberRecipe
    cl_NumberRecipe := hcl_NumberRecipe
    cls_NumberRecipe := ⟨pg_NumberRecipe, hd_NumberRecipe, po_NumberRecipe, sa_NumberRecipe⟩
    mk_NumberRecipe := ⟨mk_NumberRecipe, at_NumberRecipe_init, if_NumberRecipe_init, kc_NumberRecipe⟩
    na_NumberRecipe_orders := na_NumberRecipe_orders
    n_abs := PySem.W.mg_none_of X G bn_abs
    n_bool := PySem.W.mg_none_of X G bn_bool
    n_int := PySem.W.mg_none_of X G bn_int
    n_isinstance := PySem.W.mg_none_of X G bn_isinstance
    n_len := PySem.W.mg_none_of X G bn_len
    n_list := PySem.W.mg_none_of X G bn_list
    n_min := PySem.W.mg_none_of X G bn_min
    n_range := PySem.W.mg_none_of X G bn_range
    n_str := PySem.W.mg_none_of X G bn_str
    n_tuple := PySem.W.mg_none_of X G bn_tuple
    n_zip := PySem.W.mg_none_of X G bn_zip
    v_BODY_ORDERS := ⟨(.ref A_BODY_ORDERS), _, PySem.W.mg_of X G g_BODY_ORDERS, rfl, fun ι H => .dic (kdx_of (us := [("sign", k_BODY_ORDERS_0, (.str "lk" t_BODY_ORDERS_0)), ("echo", k_BODY_ORDERS_1, (.str "" t_BODY_ORDERS_1)), ("keep", k_BODY_ORDERS_2, (.str "" t_BODY_ORDERS_2)), ("kept", k_BODY_ORDERS_3, (.str "lk" t_BODY_ORDERS_3)), ("pay", k_BODY_ORDERS_4, (.str "" t_BODY_ORDERS_4)), ("write", k_BODY_ORDERS_5, (.str "w" t_BODY_ORDERS_5)), ("raise", k_BODY_ORDERS_6, (.str "f" t_BODY_ORDERS_6)), ("lower", k_BODY_ORDERS_7, (.str "f" t_BODY_ORDERS_7)), ("up", k_BODY_ORDERS_8, (.str "fk" t_BODY_ORDERS_8)), ("down", k_BODY_ORDERS_9, (.str "fk" t_BODY_ORDERS_9)), ("skip", k_BODY_ORDERS_10, (.str "k" t_BODY_ORDERS_10)), ("next", k_BODY_ORDERS_11, (.str "" t_BODY_ORDERS_11)), ("lose", k_BODY_ORDERS_12, (.str "" t_BODY_ORDERS_12))]) (vs := [("sign", (.str "lk")), ("echo", (.str "")), ("keep", (.str "")), ("kept", (.str "lk")), ("pay", (.str "")), ("write", (.str "w")), ("raise", (.str "f")), ("lower", (.str "f")), ("up", (.str "fk")), ("down", (.str "fk")), ("skip", (.str "k")), ("next", (.str "")), ("lose", (.str ""))]) L_BODY_ORDERS lo_BODY_ORDERS (.cons ⟨rfl, ⟨_, rfl⟩⟩ (.cons ⟨rfl, ⟨_, rfl⟩⟩ (.cons ⟨rfl, ⟨_, rfl⟩⟩ (.cons ⟨rfl, ⟨_, rfl⟩⟩ (.cons ⟨rfl, ⟨_, rfl⟩⟩ (.cons ⟨rfl, ⟨_, rfl⟩⟩ (.cons ⟨rfl, ⟨_, rfl⟩⟩ (.cons ⟨rfl, ⟨_, rfl⟩⟩ (.cons ⟨rfl, ⟨_, rfl⟩⟩ (.cons ⟨rfl, ⟨_, rfl⟩⟩ (.cons ⟨rfl, ⟨_, rfl⟩⟩ (.cons ⟨rfl, ⟨_, rfl⟩⟩ (.cons ⟨rfl, ⟨_, rfl⟩⟩ .nil)))))))))))))) (.cons (.str _) (.cons (.str _) (.cons (.str _) (.cons (.str _) (.cons (.str _) (.cons (.str _) (.cons (.str _) (.cons (.str _) (.cons (.str _) (.cons (.str _) (.cons (.str _) (.cons (.str _) (.cons (.str _) .nil)))))))))))))⟩
    v_BOUNDS := ⟨(.ref A_BOUNDS), _, PySem.W.mg_of X G g_BOUNDS, rfl, fun ι H => .dic (kdx_of (us := [("r", k_BOUNDS_0, (.int 8 t_BOUNDS_0)), ("f", k_BOUNDS_1, (.int 4 t_BOUNDS_1))]) (vs := [("r", (.int 8)), ("f", (.int 4))]) L_BOUNDS lo_BOUNDS (.cons ⟨rfl, ⟨_, rfl⟩⟩ (.cons ⟨rfl, ⟨_, rfl⟩⟩ .nil))) (.cons (.int _) (.cons (.int _) .nil))⟩
    v_FINISH_ORDERS := ⟨(.ref A_FINISH_ORDERS), _, PySem.W.mg_of X G g_FINISH_ORDERS, rfl, fun ι H => .dic (kdx_of (us := [("kept", k_FINISH_ORDERS_0, (.str "lk" t_FINISH_ORDERS_0)), ("pay", k_FINISH_ORDERS_1, (.str "" t_FINISH_ORDERS_1)), ("write", k_FINISH_ORDERS_2, (.str "w" t_FINISH_ORDERS_2)), ("raise", k_FINISH_ORDERS_3, (.str "f" t_FINISH_ORDERS_3)), ("lower", k_FINISH_ORDERS_4, (.str "f" t_FINISH_ORDERS_4)), ("up", k_FINISH_ORDERS_5, (.str "fk" t_FINISH_ORDERS_5)), ("down", k_FINISH_ORDERS_6, (.str "fk" t_FINISH_ORDERS_6)), ("skip", k_FINISH_ORDERS_7, (.str "k" t_FINISH_ORDERS_7)), ("next", k_FINISH_ORDERS_8, (.str "" t_FINISH_ORDERS_8)), ("lose", k_FINISH_ORDERS_9, (.str "" t_FINISH_ORDERS_9))]) (vs := [("kept", (.str "lk")), ("pay", (.str "")), ("write", (.str "w")), ("raise", (.str "f")), ("lower", (.str "f")), ("up", (.str "fk")), ("down", (.str "fk")), ("skip", (.str "k")), ("next", (.str "")), ("lose", (.str ""))]) L_FINISH_ORDERS lo_FINISH_ORDERS (.cons ⟨rfl, ⟨_, rfl⟩⟩ (.cons ⟨rfl, ⟨_, rfl⟩⟩ (.cons ⟨rfl, ⟨_, rfl⟩⟩ (.cons ⟨rfl, ⟨_, rfl⟩⟩ (.cons ⟨rfl, ⟨_, rfl⟩⟩ (.cons ⟨rfl, ⟨_, rfl⟩⟩ (.cons ⟨rfl, ⟨_, rfl⟩⟩ (.cons ⟨rfl, ⟨_, rfl⟩⟩ (.cons ⟨rfl, ⟨_, rfl⟩⟩ (.cons ⟨rfl, ⟨_, rfl⟩⟩ .nil))))))))))) (.cons (.str _) (.cons (.str _) (.cons (.str _) (.cons (.str _) (.cons (.str _) (.cons (.str _) (.cons (.str _) (.cons (.str _) (.cons (.str _) (.cons (.str _) .nil))))))))))⟩
    v_MOST_DIVISOR := ⟨(.int 6), _, PySem.W.mg_of X G g_MOST_DIVISOR, ⟨_, rfl⟩, fun ι H => .int _⟩
    v_MOST_ORDERS := ⟨(.int 400), _, PySem.W.mg_of X G g_MOST_ORDERS, ⟨_, rfl⟩, fun ι H => .int _⟩
    v_NUMBER_ORDERS := ⟨(.ref A_NUMBER_ORDERS), _, PySem.W.mg_of X G g_NUMBER_ORDERS, rfl, fun ι H => .dic (kdx_of (us := [("put", k_NUMBER_ORDERS_0, (.str "rn" t_NUMBER_ORDERS_0)), ("copy", k_NUMBER_ORDERS_1, (.str "rr" t_NUMBER_ORDERS_1)), ("add", k_NUMBER_ORDERS_2, (.str "rrr" t_NUMBER_ORDERS_2)), ("times", k_NUMBER_ORDERS_3, (.str "rrn" t_NUMBER_ORDERS_3)), ("over", k_NUMBER_ORDERS_4, (.str "rd" t_NUMBER_ORDERS_4)), ("rest", k_NUMBER_ORDERS_5, (.str "rd" t_NUMBER_ORDERS_5)), ("less", k_NUMBER_ORDERS_6, (.str "rrk" t_NUMBER_ORDERS_6)), ("same", k_NUMBER_ORDERS_7, (.str "rrk" t_NUMBER_ORDERS_7)), ("skip", k_NUMBER_ORDERS_8, (.str "k" t_NUMBER_ORDERS_8)), ("answer", k_NUMBER_ORDERS_9, (.str "r" t_NUMBER_ORDERS_9)), ("lose", k_NUMBER_ORDERS_10, (.str "" t_NUMBER_ORDERS_10))]) (vs := [("put", (.str "rn")), ("copy", (.str "rr")), ("add", (.str "rrr")), ("times", (.str "rrn")), ("over", (.str "rd")), ("rest", (.str "rd")), ("less", (.str "rrk")), ("same", (.str "rrk")), ("skip", (.str "k")), ("answer", (.str "r")), ("lose", (.str ""))]) L_NUMBER_ORDERS lo_NUMBER_ORDERS (.cons ⟨rfl, ⟨_, rfl⟩⟩ (.cons ⟨rfl, ⟨_, rfl⟩⟩ (.cons ⟨rfl, ⟨_, rfl⟩⟩ (.cons ⟨rfl, ⟨_, rfl⟩⟩ (.cons ⟨rfl, ⟨_, rfl⟩⟩ (.cons ⟨rfl, ⟨_, rfl⟩⟩ (.cons ⟨rfl, ⟨_, rfl⟩⟩ (.cons ⟨rfl, ⟨_, rfl⟩⟩ (.cons ⟨rfl, ⟨_, rfl⟩⟩ (.cons ⟨rfl, ⟨_, rfl⟩⟩ (.cons ⟨rfl, ⟨_, rfl⟩⟩ .nil)))))))))))) (.cons (.str _) (.cons (.str _) (.cons (.str _) (.cons (.str _) (.cons (.str _) (.cons (.str _) (.cons (.str _) (.cons (.str _) (.cons (.str _) (.cons (.str _) (.cons (.str _) .nil)))))))))))⟩
    v_REGISTERS := ⟨(.int 8), _, PySem.W.mg_of X G g_REGISTERS, ⟨_, rfl⟩, fun ι H => .int _⟩ }
  exact ⟨_, cl, fun s v => .of_eq rfl, fun base _ _ => ok_law T⟩
end
end K00
namespace K00
open PySem PySem.Spec PyProof.Rows L2 Pm
noncomputable section
/-! ### orders -/
inductive Ord where
  | put (r n : Int) | copy (a b : Int) | add (a b c : Int) | times (a b n : Int) | over (a d : Int) | rest (a d : Int) | less (a b k : Int) | same (a b k : Int) | skip (k : Int) | answer (a : Int) | lose
def Ord.d : Ord → D
  | .put r n => .tup [.str "put", .int r, .int n]
  | .copy a b => .tup [.str "copy", .int a, .int b]
  | .add a b c => .tup [.str "add", .int a, .int b, .int c]
  | .times a b n => .tup [.str "times", .int a, .int b, .int n]
  | .over a d => .tup [.str "over", .int a, .int d]
  | .rest a d => .tup [.str "rest", .int a, .int d]
  | .less a b k => .tup [.str "less", .int a, .int b, .int k]
  | .same a b k => .tup [.str "same", .int a, .int b, .int k]
  | .skip k => .tup [.str "skip", .int k]
  | .answer a => .tup [.str "answer", .int a]
  | .lose => .tup [.str "lose"]
def rg (r : Int) : Prop := 0 ≤ r ∧ r < 8
def big (n : Int) : Prop := -10000000000 ≤ n ∧ n ≤ 10000000000
def Ord.ok (h : Int) : Ord → Prop
  | .put r n => rg r ∧ big n
  | .copy a b => rg a ∧ rg b
  | .add a b c => rg a ∧ rg b ∧ rg c
  | .times a b n => rg a ∧ rg b ∧ -3 ≤ n ∧ n ≤ 3
  | .over a d => rg a ∧ 1 ≤ d ∧ d ≤ 6
  | .rest a d => rg a ∧ 1 ≤ d ∧ d ≤ 6
  | .less a b k => rg a ∧ rg b ∧ 0 ≤ k ∧ k ≤ h
  | .same a b k => rg a ∧ rg b ∧ 0 ≤ k ∧ k ≤ h
  | .skip k => 0 ≤ k ∧ k ≤ h
  | .answer a => rg a
  | .lose => True
section
variable {s t : S} {Q : D → S → Prop}
theorem tk {m : Int} (h : Dk s t) (hm : 0 < m) (k : ∀ v s', 0 ≤ v → v < m → Dk s' t → Q (.int v) s') : wp (f_law_take [.ref 0, .int m] s) Q := take_wp h hm k
theorem spot_wp (h : Dk s t) (k : ∀ v s', rg v → Dk s' t → Q (.int v) s') : wp (f_law_spot [.ref 0] s) Q := by
  refine (wp_fn (n := 1) (tot := 1) (m := m_law_spot) rfl).mpr ?_
  show wS (m_law_spot [some (.ref 0)] s) _
  unfold m_law_spot
  simp only [wp_ok, wp_bad, wp_bind, wS_ok, wS_bad, wS_cons, wS_nil, wS_pass, wS_break, wS_cont, wS_never, wS_set, wS_expr, wS_ret, wS_retN, wS_if, wS_asg, wS_aug, wS_for, wp_lc, wp_m1, wp_m2, wp_mN, wp_aNil, wp_aCons, wp_mC, wp_var, wp_if, wp_and, wp_or, wp_not, wp_chain, wp_mt, wp_get, wp_isi, wp_fld, wp_sl, wp_oNone, wp_oSome, wp_tBool, wp_tTru, wp_tNot, wp_tAnd, wp_tOr, wp_tAll, wp_gSlot, wp_gsNil, wp_gsCons, wp_gTup, wp_gSub, wp_iAny, wp_iSeq, wp_iTup, wp_iStr, wp_iRange1, wp_iRange2, wp_iZip, wS_fld, wp_make, seqQ, rtQ, turnQ, List.getElem?_cons_zero, List.getElem?_cons_succ, List.set_cons_zero, List.set_cons_succ, wipeD, if_true, if_false, Bool.false_eq_true, Bool.true_eq_false, reduceIte]
  refine tk h (by decide) fun v s1 h0 h1 d1 => ?_
  rw [w_lst]
  refine ⟨by show 8 ≤ sizeLine; decide, tk d1 (by decide) fun u s2 g0 g1 d2 => ?_⟩
  refine ix_any g0 g1 fun d hd => ?_
  simp only [List.mem_cons, List.not_mem_nil, or_false] at hd
  rcases hd with rfl | rfl | rfl | rfl | rfl | rfl | rfl | rfl <;> first
    | exact k _ _ ⟨by decide, by decide⟩ d2
    | exact k _ _ ⟨h0, h1⟩ d2
theorem amount_wp (h : Dk s t) (k : ∀ v s', big v → Dk s' t → Q (.int v) s') : wp (f_law_amount [.ref 0] s) Q := by
  refine (wp_fn (n := 1) (tot := 2) (m := m_law_amount) rfl).mpr ?_
  show wS (m_law_amount [some (.ref 0), none] s) _
  unfold m_law_amount
  simp only [wp_ok, wp_bad, wp_bind, wS_ok, wS_bad, wS_cons, wS_nil, wS_pass, wS_break, wS_cont, wS_never, wS_set, wS_expr, wS_ret, wS_retN, wS_if, wS_asg, wS_aug, wS_for, wp_lc, wp_m1, wp_m2, wp_mN, wp_aNil, wp_aCons, wp_mC, wp_var, wp_if, wp_and, wp_or, wp_not, wp_chain, wp_mt, wp_get, wp_isi, wp_fld, wp_sl, wp_oNone, wp_oSome, wp_tBool, wp_tTru, wp_tNot, wp_tAnd, wp_tOr, wp_tAll, wp_gSlot, wp_gsNil, wp_gsCons, wp_gTup, wp_gSub, wp_iAny, wp_iSeq, wp_iTup, wp_iStr, wp_iRange1, wp_iRange2, wp_iZip, wS_fld, wp_make, seqQ, rtQ, turnQ, List.getElem?_cons_zero, List.getElem?_cons_succ, List.set_cons_zero, List.set_cons_succ, wipeD, if_true, if_false, Bool.false_eq_true, Bool.true_eq_false, reduceIte]
  refine tk h (by decide) fun a s1 a0 a1 d1 => ?_
  rw [w_sub]
  refine tk d1 (by decide) fun b s2 b0 b1 d2 => ?_
  rw [w_sub, w_pow]
  refine ⟨by decide, ?_⟩
  have e9 : (10 : Int) ^ (9 : Int).toNat = 1000000000 := by decide
  rw [e9, w_mul]
  refine ⟨?_, tk d2 (by decide) fun c s3 c0 c1 d3 => ?_⟩
  · have h1 : iBits (a - 4) ≤ 32 := small_bits (k := 32) (by omega)
    have h2 : iBits 1000000000 ≤ 32 := by decide
    omega
  rw [w_add, w_lst]
  refine ⟨by show 4 ≤ sizeLine; decide, tk d3 (by decide) fun u s4 u0 u1 d4 => ?_⟩
  refine ix_any u0 u1 fun d hd => ?_
  simp only [List.mem_cons, List.not_mem_nil, or_false] at hd
  rcases hd with rfl | rfl | rfl | rfl <;> exact k _ _ ⟨by omega, by omega⟩ d4
def words : List D := [.str "put", .str "put", .str "copy", .str "add", .str "add", .str "times", .str "over", .str "over", .str "rest", .str "rest", .str "less", .str "less", .str "less", .str "same", .str "same", .str "skip", .str "answer", .str "lose"]
theorem split_words : dSplit (.str "put put copy add add times over over rest rest less less less same same skip answer lose") [.str " "] s = .ok (.lst words) s := by
  have e : Txt.split (Str.ofString "put put copy add add times over over rest rest less less less same same skip answer lose") (Str.ofString " ") = ["put", "put", "copy", "add", "add", "times", "over", "over", "rest", "rest", "less", "less", "less", "same", "same", "skip", "answer", "lose"].map Str.ofString := by decide +kernel
  have h2 : ("_" : String) = "_" := rfl
  show (if (Str.ofString " ").length ≠ 0 ∧ (Str.ofString "put put copy add add times over over rest rest less less less same same skip answer lose").length + 2 ≤ sizeLine then R.ok (D.lst ((Txt.split (Str.ofString "put put copy add add times over over rest rest less less less same same skip answer lose") (Str.ofString " ")).map D.str)) s else R.bad) = _
  rw [e]
  exact if_pos (by decide +kernel)
theorem order_wp {b : Int} {ds : List Int} (h : Dk s t) (hb : 0 ≤ b) (hd0 : ds ≠ []) (hds : ∀ x ∈ ds, 1 ≤ x ∧ x ≤ 6) (k : ∀ o s', Ord.ok b o → Dk s' t → Q o.d s') : wp (f_law_order [.ref 0, .int b, .lst (ds.map .int)] s) Q := by
  refine (wp_fn (n := 3) (tot := 7) (m := m_law_order) rfl).mpr ?_
  show wS (m_law_order [some (.ref 0), some (.int b), some (.lst (ds.map .int)), none, none, none, none] s) _
  unfold m_law_order
  simp only [wp_ok, wp_bad, wp_bind, wS_ok, wS_bad, wS_cons, wS_nil, wS_pass, wS_break, wS_cont, wS_never, wS_set, wS_expr, wS_ret, wS_retN, wS_if, wS_asg, wS_aug, wS_for, wp_lc, wp_m1, wp_m2, wp_mN, wp_aNil, wp_aCons, wp_mC, wp_var, wp_if, wp_and, wp_or, wp_not, wp_chain, wp_mt, wp_get, wp_isi, wp_fld, wp_sl, wp_oNone, wp_oSome, wp_tBool, wp_tTru, wp_tNot, wp_tAnd, wp_tOr, wp_tAll, wp_gSlot, wp_gsNil, wp_gsCons, wp_gTup, wp_gSub, wp_iAny, wp_iSeq, wp_iTup, wp_iStr, wp_iRange1, wp_iRange2, wp_iZip, wS_fld, wp_make, seqQ, rtQ, turnQ, List.getElem?_cons_zero, List.getElem?_cons_succ, List.set_cons_zero, List.set_cons_succ, wipeD, if_true, if_false, Bool.false_eq_true, Bool.true_eq_false, reduceIte]
  refine ⟨rfl, ?_⟩
  rw [split_words]
  simp only [wp_ok, wp_bad, wp_bind, wS_ok, wS_bad, wS_cons, wS_nil, wS_pass, wS_break, wS_cont, wS_never, wS_set, wS_expr, wS_ret, wS_retN, wS_if, wS_asg, wS_aug, wS_for, wp_lc, wp_m1, wp_m2, wp_mN, wp_aNil, wp_aCons, wp_mC, wp_var, wp_if, wp_and, wp_or, wp_not, wp_chain, wp_mt, wp_get, wp_isi, wp_fld, wp_sl, wp_oNone, wp_oSome, wp_tBool, wp_tTru, wp_tNot, wp_tAnd, wp_tOr, wp_tAll, wp_gSlot, wp_gsNil, wp_gsCons, wp_gTup, wp_gSub, wp_iAny, wp_iSeq, wp_iTup, wp_iStr, wp_iRange1, wp_iRange2, wp_iZip, wS_fld, wp_make, seqQ, rtQ, turnQ, List.getElem?_cons_zero, List.getElem?_cons_succ, List.set_cons_zero, List.set_cons_succ, wipeD, if_true, if_false, Bool.false_eq_true, Bool.true_eq_false, reduceIte]
  refine tk h (by decide) fun a s1 a0 a1 d1 => ?_
  refine ix_any a0 a1 fun wd hw => ?_
  refine spot_wp d1 fun r0 s2 hr0 d2 => spot_wp d2 fun r1 s3 hr1 d3 => spot_wp d3 fun r2 s4 hr2 d4 => ?_
  rw [w_lst]
  refine ⟨by show 3 ≤ sizeLine; decide, tk d4 (by decide) fun c s5 c0 c1 d5 => ?_⟩
  rw [w_lst]
  refine ⟨by show 6 ≤ sizeLine; decide, tk d5 (by decide) fun u s6 u0 u1 d6 => ?_⟩
  refine ix_any u0 u1 fun z hz => ?_
  have hz' : ∃ y : Int, z = .int y ∧ 0 ≤ y := by
    simp only [List.mem_cons, List.not_mem_nil, or_false] at hz
    rcases hz with rfl | rfl | rfl | rfl | rfl | rfl <;> exact ⟨_, rfl, by omega⟩
  obtain ⟨y, rfl, hy⟩ := hz'
  rw [w_min]
  generalize hq : (if y < b then y else b) = q
  have hq0 : 0 ≤ q ∧ q ≤ b := by rw [← hq]; split <;> omega
  have hdl : 0 < ((ds.map D.int).length : Int) := by
    cases ds with
    | nil => exact absurd rfl hd0
    | cons x xs => simp
  unfold words at hw
  simp only [List.mem_cons, List.not_mem_nil, or_false] at hw
  simp only [wp_ok, wp_bad, wp_bind, wS_ok, wS_bad, wS_cons, wS_nil, wS_pass, wS_break, wS_cont, wS_never, wS_set, wS_expr, wS_ret, wS_retN, wS_if, wS_asg, wS_aug, wS_for, wp_lc, wp_m1, wp_m2, wp_mN, wp_aNil, wp_aCons, wp_mC, wp_var, wp_if, wp_and, wp_or, wp_not, wp_chain, wp_mt, wp_get, wp_isi, wp_fld, wp_sl, wp_oNone, wp_oSome, wp_tBool, wp_tTru, wp_tNot, wp_tAnd, wp_tOr, wp_tAll, wp_gSlot, wp_gsNil, wp_gsCons, wp_gTup, wp_gSub, wp_iAny, wp_iSeq, wp_iTup, wp_iStr, wp_iRange1, wp_iRange2, wp_iZip, wS_fld, wp_make, seqQ, rtQ, turnQ, List.getElem?_cons_zero, List.getElem?_cons_succ, List.set_cons_zero, List.set_cons_succ, wipeD, if_true, if_false, Bool.false_eq_true, Bool.true_eq_false, reduceIte, w_add, w_iadd, w_iaddS, w_addS, w_addL, w_addT, w_sub, w_mul, w_mod, w_fdiv, w_pow, w_neg, w_lt, w_le, w_gt, w_ge, w_eqI, w_neI, w_eqT, w_neT, w_isN, w_isnotN, w_isB, w_isNB, w_len, w_lenT, w_int, w_intB, w_abs, w_min, w_max, w_tup, w_lst, w_new, w_list, w_listN, w_ix, w_ixT, w_ixD, w_inT1, w_notinT1, w_inT2, w_notinT2, w_inT3, w_notinT3, w_inT4, w_notinT4, w_inT5, w_notinT5, w_inT6, w_notinT6, w_inT7, w_notinT7, w_inT8, w_notinT8, w_sl1, at_0, at_1, at_2, at_3, at_4, at_5, hasTy_list, hasTy_str, isNonD, flatD, sEq_T, List.all_cons, List.all_nil, List.any_cons, List.any_nil, Bool.and_true, Bool.true_and, Bool.or_false, Bool.or_true, Bool.true_or, Bool.false_or, Bool.not_true, Bool.not_false, List.length_cons, List.length_nil, Nat.zero_add, Nat.reduceAdd, line_eq, true_and, and_true, String.reduceBEq, Int.reduceBEq, decide_true, decide_false, Int.reduceLT, Int.reduceLE, beq_self_eq_true, Nat.reduceLeDiff]
  rcases hw with rfl | rfl | rfl | rfl | rfl | rfl | rfl | rfl | rfl | rfl | rfl | rfl | rfl | rfl | rfl | rfl | rfl | rfl
  all_goals simp only [wp_ok, wp_bad, wp_bind, wS_ok, wS_bad, wS_cons, wS_nil, wS_pass, wS_break, wS_cont, wS_never, wS_set, wS_expr, wS_ret, wS_retN, wS_if, wS_asg, wS_aug, wS_for, wp_lc, wp_m1, wp_m2, wp_mN, wp_aNil, wp_aCons, wp_mC, wp_var, wp_if, wp_and, wp_or, wp_not, wp_chain, wp_mt, wp_get, wp_isi, wp_fld, wp_sl, wp_oNone, wp_oSome, wp_tBool, wp_tTru, wp_tNot, wp_tAnd, wp_tOr, wp_tAll, wp_gSlot, wp_gsNil, wp_gsCons, wp_gTup, wp_gSub, wp_iAny, wp_iSeq, wp_iTup, wp_iStr, wp_iRange1, wp_iRange2, wp_iZip, wS_fld, wp_make, seqQ, rtQ, turnQ, List.getElem?_cons_zero, List.getElem?_cons_succ, List.set_cons_zero, List.set_cons_succ, wipeD, if_true, if_false, Bool.false_eq_true, Bool.true_eq_false, reduceIte, w_add, w_iadd, w_iaddS, w_addS, w_addL, w_addT, w_sub, w_mul, w_mod, w_fdiv, w_pow, w_neg, w_lt, w_le, w_gt, w_ge, w_eqI, w_neI, w_eqT, w_neT, w_isN, w_isnotN, w_isB, w_isNB, w_len, w_lenT, w_int, w_intB, w_abs, w_min, w_max, w_tup, w_lst, w_new, w_list, w_listN, w_ix, w_ixT, w_ixD, w_inT1, w_notinT1, w_inT2, w_notinT2, w_inT3, w_notinT3, w_inT4, w_notinT4, w_inT5, w_notinT5, w_inT6, w_notinT6, w_inT7, w_notinT7, w_inT8, w_notinT8, w_sl1, at_0, at_1, at_2, at_3, at_4, at_5, hasTy_list, hasTy_str, isNonD, flatD, sEq_T, List.all_cons, List.all_nil, List.any_cons, List.any_nil, Bool.and_true, Bool.true_and, Bool.or_false, Bool.or_true, Bool.true_or, Bool.false_or, Bool.not_true, Bool.not_false, List.length_cons, List.length_nil, Nat.zero_add, Nat.reduceAdd, line_eq, true_and, and_true, String.reduceBEq, Int.reduceBEq, decide_true, decide_false, Int.reduceLT, Int.reduceLE, beq_self_eq_true, Nat.reduceLeDiff]
  · exact amount_wp d6 fun v s7 hv d7 => k (.put r0 v) _ ⟨hr0, hv⟩ d7
  · exact amount_wp d6 fun v s7 hv d7 => k (.put r0 v) _ ⟨hr0, hv⟩ d7
  · exact k (.copy r0 r1) _ ⟨hr0, hr1⟩ d6
  · exact k (.add r0 r1 r2) _ ⟨hr0, hr1, hr2⟩ d6
  · exact k (.add r0 r1 r2) _ ⟨hr0, hr1, hr2⟩ d6
  · exact tk d6 (by decide) fun v s7 v0 v1 d7 => by rw [w_sub]; exact k (.times r0 r1 (v - 3)) _ ⟨hr0, hr1, by omega, by omega⟩ d7
  all_goals try (
    refine tk d6 hdl fun v s7 v0 v1 d7 => ?_
    refine ix_any v0 v1 fun z hz => ?_
    obtain ⟨e, he, rfl⟩ := List.mem_map.mp hz
    have h16 := hds e he
    first
      | exact k (.over r0 e) _ ⟨hr0, h16.1, h16.2⟩ d7
      | exact k (.rest r0 e) _ ⟨hr0, h16.1, h16.2⟩ d7
    done)
  all_goals try (
    first
      | exact k (.less r0 r1 q) _ ⟨hr0, hr1, hq0⟩ d6
      | exact k (.same r0 r1 q) _ ⟨hr0, hr1, hq0⟩ d6
      | exact k (.skip q) _ hq0 d6
    done)
  · refine tk d6 (by decide) fun v s7 v0 v1 d7 => ?_
    rw [w_eqI]
    simp only
    split
    · exact k (.answer r0) _ hr0 d7
    · exact k (.copy r0 r1) _ ⟨hr0, hr1⟩ d7
  · refine tk d6 (by decide) fun v s7 v0 v1 d7 => ?_
    rw [w_eqI]
    simp only
    split
    · exact k .lose _ trivial d7
    · exact k (.copy r0 r1) _ ⟨hr0, hr1⟩ d7
/-- a recipe's orders: a list of at most 33, the skips within -/
def Good (os : List Ord) : Prop := os.length ≤ 33 ∧ ∀ (i : Nat) (o : Ord), os[i]? = some o → o.ok ((os.length : Int) - i - 1)
theorem orders_wp (h : Dk s t) (k : ∀ os s', Good os → Dk s' t → Q (.lst (os.map Ord.d)) s') : wp (f_law_orders [.ref 0] s) Q := by
  refine (wp_fn (n := 1) (tot := 5) (m := m_law_orders) rfl).mpr ?_
  show wS (m_law_orders [some (.ref 0), none, none, none, none] s) _
  unfold m_law_orders
  simp only [wp_ok, wp_bad, wp_bind, wS_ok, wS_bad, wS_cons, wS_nil, wS_pass, wS_break, wS_cont, wS_never, wS_set, wS_expr, wS_ret, wS_retN, wS_if, wS_asg, wS_aug, wS_for, wp_lc, wp_m1, wp_m2, wp_mN, wp_aNil, wp_aCons, wp_mC, wp_var, wp_if, wp_and, wp_or, wp_not, wp_chain, wp_mt, wp_get, wp_isi, wp_fld, wp_sl, wp_oNone, wp_oSome, wp_tBool, wp_tTru, wp_tNot, wp_tAnd, wp_tOr, wp_tAll, wp_gSlot, wp_gsNil, wp_gsCons, wp_gTup, wp_gSub, wp_iAny, wp_iSeq, wp_iTup, wp_iStr, wp_iRange1, wp_iRange2, wp_iZip, wS_fld, wp_make, seqQ, rtQ, turnQ, List.getElem?_cons_zero, List.getElem?_cons_succ, List.set_cons_zero, List.set_cons_succ, wipeD, if_true, if_false, Bool.false_eq_true, Bool.true_eq_false, reduceIte]
  refine tk h (by decide) fun a s1 a0 a1 d1 => tk d1 (by decide) fun b s2 b0 b1 d2 => ?_
  rw [w_add]
  refine tk d2 (by decide) fun c s3 c0 c1 d3 => ?_
  rw [w_add, w_lst]
  refine ⟨by show 3 ≤ sizeLine; decide, tk d3 (by decide) fun u s4 u0 u1 d4 => ?_⟩
  refine ix_any u0 u1 fun z hz => ?_
  have hz' : ∃ n : Nat, z = .int n ∧ n ≤ 32 := by
    simp only [List.mem_cons, List.not_mem_nil, or_false] at hz
    rcases hz with rfl | rfl | rfl
    · exact ⟨a.toNat, by congr 1; omega, by omega⟩
    · exact ⟨(4 + b).toNat, by congr 1; omega, by omega⟩
    · exact ⟨(8 + c).toNat, by congr 1; omega, by omega⟩
  obtain ⟨n, rfl, hn⟩ := hz'
  simp only [w_lst]
  refine ⟨by decide, by decide, by decide, by decide, by decide, by decide, by decide, tk d4 (by decide) fun v s5 v0 v1 d5 => ?_⟩
  refine ix_any v0 v1 fun z hz => ?_
  have hz' : ∃ ds : List Int, z = .lst (ds.map .int) ∧ ds ≠ [] ∧ ∀ x ∈ ds, 1 ≤ x ∧ x ≤ 6 := by
    simp only [List.mem_cons, List.not_mem_nil, or_false] at hz
    rcases hz with rfl | rfl | rfl | rfl | rfl | rfl
    · exact ⟨[1, 2], rfl, by decide, by decide⟩
    · exact ⟨[2, 3], rfl, by decide, by decide⟩
    · exact ⟨[4], rfl, by decide, by decide⟩
    · exact ⟨[5, 2], rfl, by decide, by decide⟩
    · exact ⟨[6, 3], rfl, by decide, by decide⟩
    · exact ⟨[1, 2, 3, 4, 5, 6], rfl, by decide, by decide⟩
  obtain ⟨ds, rfl, hd0, hds⟩ := hz'
  refine ⟨⟨by omega, by omega⟩, ?_⟩
  have e0 : ((n : Int)).toNat = n := by omega
  rw [e0]
  let I : List D → List D → S → Prop := fun xs acc s => ∃ (os : List Ord), acc = os.map Ord.d ∧ xs = (List.range' os.length xs.length).map (fun i : Nat => D.int i) ∧ os.length + xs.length = n ∧ Dk s t ∧ ∀ (i : Nat) (o : Ord), os[i]? = some o → o.ok ((n : Int) - i)
  have hr : rng 0 n = (List.range' 0 n).map (fun i : Nat => D.int i) := by
    unfold rng
    rw [List.range_eq_range']
    congr 1
    funext i
    congr 1
    omega
  refine wp_mapN I ?_ _ [] s5 ⟨[], rfl, by simp [hr], by simp [hr], d5, by simp⟩ ?_
  · rintro x xs acc s ⟨os, rfl, hx, hl, dk, hok⟩
    simp only [List.length_cons, List.range'_succ, List.map_cons, List.cons.injEq] at hx
    obtain ⟨rfl, hxs⟩ := hx
    simp only [List.length_cons] at hl
    simp only [wp_ok, wp_bad, wp_bind, wS_ok, wS_bad, wS_cons, wS_nil, wS_pass, wS_break, wS_cont, wS_never, wS_set, wS_expr, wS_ret, wS_retN, wS_if, wS_asg, wS_aug, wS_for, wp_lc, wp_m1, wp_m2, wp_mN, wp_aNil, wp_aCons, wp_mC, wp_var, wp_if, wp_and, wp_or, wp_not, wp_chain, wp_mt, wp_get, wp_isi, wp_fld, wp_sl, wp_oNone, wp_oSome, wp_tBool, wp_tTru, wp_tNot, wp_tAnd, wp_tOr, wp_tAll, wp_gSlot, wp_gsNil, wp_gsCons, wp_gTup, wp_gSub, wp_iAny, wp_iSeq, wp_iTup, wp_iStr, wp_iRange1, wp_iRange2, wp_iZip, wS_fld, wp_make, seqQ, rtQ, turnQ, List.getElem?_cons_zero, List.getElem?_cons_succ, List.set_cons_zero, List.set_cons_succ, wipeD, if_true, if_false, Bool.false_eq_true, Bool.true_eq_false, reduceIte]
    rw [w_sub]
    refine order_wp dk (by omega) hd0 hds fun o s6 ho d6 => ?_
    refine ⟨os ++ [o], by simp, by simpa using hxs, by simp; omega, d6, fun i o' hi => ?_⟩
    by_cases h1 : i < os.length
    · rw [List.getElem?_append_left h1] at hi
      exact hok i o' hi
    · have h2 : i = os.length := by
        have := (List.getElem?_eq_some_iff.mp hi).1
        simp at this
        omega
      subst h2
      simp at hi
      subst hi
      exact ho
  · rintro acc s6 ⟨os, hacc, _, hl, d6, hok⟩
    simp only [List.nil_append] at hacc
    subst hacc
    simp only [List.length_nil, Nat.add_zero] at hl
    refine ⟨line_of (by unfold rng; simp; omega), ?_⟩
    refine spot_wp d6 fun r s7 hr7 d7 => ?_
    simp only [wp_ok, wp_bad, wp_bind, wS_ok, wS_bad, wS_cons, wS_nil, wS_pass, wS_break, wS_cont, wS_never, wS_set, wS_expr, wS_ret, wS_retN, wS_if, wS_asg, wS_aug, wS_for, wp_lc, wp_m1, wp_m2, wp_mN, wp_aNil, wp_aCons, wp_mC, wp_var, wp_if, wp_and, wp_or, wp_not, wp_chain, wp_mt, wp_get, wp_isi, wp_fld, wp_sl, wp_oNone, wp_oSome, wp_tBool, wp_tTru, wp_tNot, wp_tAnd, wp_tOr, wp_tAll, wp_gSlot, wp_gsNil, wp_gsCons, wp_gTup, wp_gSub, wp_iAny, wp_iSeq, wp_iTup, wp_iStr, wp_iRange1, wp_iRange2, wp_iZip, wS_fld, wp_make, seqQ, rtQ, turnQ, List.getElem?_cons_zero, List.getElem?_cons_succ, List.set_cons_zero, List.set_cons_succ, wipeD, if_true, if_false, Bool.false_eq_true, Bool.true_eq_false, reduceIte, w_add, w_iadd, w_iaddS, w_addS, w_addL, w_addT, w_sub, w_mul, w_mod, w_fdiv, w_pow, w_neg, w_lt, w_le, w_gt, w_ge, w_eqI, w_neI, w_eqT, w_neT, w_isN, w_isnotN, w_isB, w_isNB, w_len, w_lenT, w_int, w_intB, w_abs, w_min, w_max, w_tup, w_lst, w_new, w_list, w_listN, w_ix, w_ixT, w_ixD, w_inT1, w_notinT1, w_inT2, w_notinT2, w_inT3, w_notinT3, w_inT4, w_notinT4, w_inT5, w_notinT5, w_inT6, w_notinT6, w_inT7, w_notinT7, w_inT8, w_notinT8, w_sl1, at_0, at_1, at_2, at_3, at_4, at_5, hasTy_list, hasTy_str, isNonD, flatD, sEq_T, List.all_cons, List.all_nil, List.any_cons, List.any_nil, Bool.and_true, Bool.true_and, Bool.or_false, Bool.or_true, Bool.true_or, Bool.false_or, Bool.not_true, Bool.not_false, List.length_cons, List.length_nil, Nat.zero_add, Nat.reduceAdd, line_eq, true_and, and_true, String.reduceBEq, Int.reduceBEq, decide_true, decide_false, Int.reduceLT, Int.reduceLE, beq_self_eq_true, Nat.reduceLeDiff]
    refine ⟨by have := List.length_map (as := os) Ord.d; omega, ?_⟩
    have e1 : os.map Ord.d ++ [D.tup [D.str "answer", D.int r]] = (os ++ [Ord.answer r]).map Ord.d := by simp [Ord.d]
    rw [e1]
    refine k _ _ ⟨by simp; omega, fun i o hi => ?_⟩ d7
    simp only [List.length_append, List.length_singleton]
    by_cases h1 : i < os.length
    · rw [List.getElem?_append_left h1] at hi
      have := hok i o hi
      have e2 : ((os.length + 1 : Nat) : Int) - i - 1 = (n : Int) - i := by omega
      rw [e2]
      exact this
    · have h2 : i = os.length := by
        have := (List.getElem?_eq_some_iff.mp hi).1
        simp at this
        omega
      subst h2
      simp at hi
      subst hi
      exact hr7

/-! ### what a recipe computes -/
def get (r : List Int) (a : Int) : Int := r.getD a.toNat 0
def Ord.to (at_ : Nat) (r : List Int) : Ord → Nat
  | .less a b k => if get r a ≥ get r b then at_ + 1 + k.toNat else at_ + 1
  | .same a b k => if get r a ≠ get r b then at_ + 1 + k.toNat else at_ + 1
  | .skip k => at_ + 1 + k.toNat
  | _ => at_ + 1
def Ord.set (n : Int) (r : List Int) : Ord → List Int
  | .put a v => r.set a.toNat v
  | .copy a b => r.set a.toNat (get r b)
  | .add a b c => r.set a.toNat (get r b + get r c)
  | .times a b v => r.set a.toNat (get r b * v)
  | .over a d => r.set a.toNat (n / d)
  | .rest a d => r.set a.toNat (n % d)
  | _ => r
def exec (os : List Ord) (n : Int) : Nat → Nat → List Int → List Int → Option Int × List Int
  | 0, _, _, p => (none, p)
  | f + 1, at_, r, p => match os[at_]? with
    | none => (none, p)
    | some (.answer a) => (some (get r a), p ++ [(at_ : Int)])
    | some .lose => (none, p ++ [(at_ : Int)])
    | some o => exec os n f (o.to at_ r) (o.set n r) (p ++ [(at_ : Int)])
def opt : Option Int → D
  | none => .non
  | some i => .int i
/-- registers as they may stand at a place -/
structure Bd (at_ : Nat) (r : List Int) : Prop where
  len : r.length = 8
  le : ∀ x ∈ r, x.natAbs ≤ 10 ^ 30 * 3 ^ at_
theorem Bd.get {at_ : Nat} {r : List Int} (h : Bd at_ r) {a : Int} (ha : rg a) : (r.map D.int)[a.toNat]? = some (.int (K00.get r a)) ∧ (K00.get r a).natAbs ≤ 10 ^ 30 * 3 ^ at_ := by
  have hl : a.toNat < r.length := by rw [h.len]; have := ha.1; have := ha.2; omega
  have e : K00.get r a = r[a.toNat] := by
    unfold K00.get
    rw [List.getD_eq_getElem?_getD, List.getElem?_eq_getElem hl] <;> rfl
  rw [List.getElem?_map, List.getElem?_eq_getElem hl, e]
  exact ⟨rfl, h.le _ (List.getElem_mem hl)⟩
theorem Bd.atI {at_ : Nat} {r : List Int} (h : Bd at_ r) {a : Int} (ha : rg a) : L2.atI (r.map D.int) a = some (.int (K00.get r a)) := by
  rw [atI_nat (n := a.toNat) (by have := ha.1; omega)]
  exact (h.get ha).1
theorem Bd.put {at_ at' : Nat} {r : List Int} (h : Bd at_ r) (hlt : at_ < at') {a v : Int} (hv : v.natAbs ≤ 10 ^ 30 * 3 ^ at_ * 3) : Bd at' (r.set a.toNat v) := by
  have hm : 10 ^ 30 * 3 ^ at_ * 3 ≤ 10 ^ 30 * 3 ^ at' := by
    rw [Nat.mul_assoc, ← Nat.pow_succ]
    exact Nat.mul_le_mul_left _ (Nat.pow_le_pow_right (by decide) hlt)
  refine ⟨by rw [List.length_set]; exact h.len, fun x hx => ?_⟩
  rcases List.mem_or_eq_of_mem_set hx with hx | hx
  · have := h.le x hx
    omega
  · rw [hx]
    omega
theorem Bd.up {at_ at' : Nat} {r : List Int} (h : Bd at_ r) (hlt : at_ < at') : Bd at' r := by
  have hm : 10 ^ 30 * 3 ^ at_ ≤ 10 ^ 30 * 3 ^ at' := Nat.mul_le_mul_left _ (Nat.pow_le_pow_right (by decide) (Nat.le_of_lt hlt))
  exact ⟨h.len, fun x hx => Nat.le_trans (h.le x hx) hm⟩
theorem to_gt (at_ : Nat) (r : List Int) (o : Ord) : at_ < o.to at_ r := by
  cases o <;> simp only [Ord.to] <;> (try split) <;> omega
theorem Bd.set {at_ : Nat} {r : List Int} (h : Bd at_ r) {n b : Int} (hn : n.natAbs ≤ 10 ^ 30) {o : Ord} (ho : o.ok b) : Bd (o.to at_ r) (o.set n r) := by
  have h1 : 10 ^ 30 ≤ 10 ^ 30 * 3 ^ at_ := Nat.le_mul_of_pos_right _ (Nat.pow_pos (by decide))
  have lt := to_gt at_ r o
  have hb : (10000000000 : Nat) ≤ 10 ^ 30 := by decide
  cases o with
  | put a v => exact h.put lt (by have := ho.2.1; have := ho.2.2; omega)
  | copy a c => exact h.put lt (by have := (h.get ho.2).2; omega)
  | add a b c =>
    have h2 := (h.get ho.2.1).2
    have h3 := (h.get ho.2.2).2
    exact h.put lt (by omega)
  | times a b v =>
    have h2 := (h.get ho.2.1).2
    refine h.put lt ?_
    rw [Int.natAbs_mul]
    have h4 : v.natAbs ≤ 3 := by have := ho.2.2.1; have := ho.2.2.2; omega
    exact Nat.mul_le_mul h2 h4
  | over a d =>
    refine h.put lt ?_
    have h5 : (n / d).natAbs ≤ n.natAbs := Int.natAbs_ediv_le_natAbs n d
    omega
  | rest a d =>
    refine h.put lt ?_
    have h6 := Int.emod_nonneg n (show d ≠ 0 by have := ho.2.1; omega)
    have h7 := Int.emod_lt_of_pos n (show 0 < d by have := ho.2.1; omega)
    have := ho.2.2
    omega
  | _ => exact h.up lt

theorem bits_le {x : Int} {at_ : Nat} (h : x.natAbs ≤ 10 ^ 30 * 3 ^ at_) (ha : at_ ≤ 100) : iBits x ≤ 400 := by
  refine small_bits (k := 400) (Nat.lt_of_le_of_lt h ?_)
  have h1 : 3 ^ at_ ≤ 3 ^ 100 := Nat.pow_le_pow_right (by decide) ha
  exact Nat.lt_of_le_of_lt (Nat.mul_le_mul_left _ h1) (by decide)
theorem log_small {d : Int} (h1 : 1 ≤ d) (h6 : d ≤ 6) : d.natAbs.log2 < 9000 := by
  have : d = 1 ∨ d = 2 ∨ d = 3 ∨ d = 4 ∨ d = 5 ∨ d = 6 := by omega
  rcases this with rfl | rfl | rfl | rfl | rfl | rfl <;> decide
/-- orders that go on -/
def Ord.on : Ord → Bool
  | .answer _ => false
  | .lose => false
  | _ => true
section
variable {A B G : O} {os : List Ord} {n : Int} {Q : D → S → Prop}
/-- a register is read, written -/
theorem reg_ix {r : List Int} {s : S} {at_ : Nat} {i : Nat} {a : Int} {Q : D → S → Prop} (hs : s[i]? = some (.lst (r.map .int))) (h : Bd at_ r) (ha : rg a) : wp (dIx (.ref i) (.int a) s) Q = Q (.int (get r a)) s := by
  rw [w_ixR hs, h.atI ha]
theorem reg_st {r : List Int} {s : S} {at_ : Nat} {i : Nat} {a v : Int} (hs : s[i]? = some (.lst (r.map .int))) (h : Bd at_ r) (ha : rg a) : dStore (.ref i) (.int a) (.int v) s = some (s.set i (.lst ((r.set a.toNat v).map .int))) := by
  rw [w_store hs ha.1 (by rw [List.length_map, h.len]; exact ha.2), List.map_set]
theorem calc_wp {r : List Int} {at_ : Nat} {o : Ord} {b : Int} (h : Bd at_ r) (ha : at_ ≤ 100) (ho : o.ok b) (hon : o.on = true) (k : Q .non [A, B, .lst ((o.set n r).map .int), G]) : wp (f_calculate [o.d, .ref 2, .int n] [A, B, .lst (r.map .int), G]) Q := by
  refine (wp_fn (n := 3) (tot := 4) (m := m_calculate) rfl).mpr ?_
  show wS (m_calculate [some o.d, some (.ref 2), some (.int n), none] _) _
  have rx : ∀ {a : Int} {Q : D → S → Prop}, rg a → wp (dIx (.ref 2) (.int a) [A, B, .lst (r.map .int), G]) Q = Q (.int (get r a)) [A, B, .lst (r.map .int), G] := fun ha => reg_ix rfl h ha
  have rs : ∀ {a v : Int}, rg a → dStore (.ref 2) (.int a) (.int v) [A, B, .lst (r.map .int), G] = some [A, B, .lst ((r.set a.toNat v).map .int), G] := fun ha => reg_st rfl h ha
  unfold m_calculate
  cases o with
  | put a v =>
    unfold Ord.d; simp only [wp_ok, wp_bad, wp_bind, wS_ok, wS_bad, wS_cons, wS_nil, wS_pass, wS_break, wS_cont, wS_never, wS_set, wS_expr, wS_ret, wS_retN, wS_if, wS_asg, wS_aug, wS_for, wp_lc, wp_m1, wp_m2, wp_mN, wp_aNil, wp_aCons, wp_mC, wp_var, wp_if, wp_and, wp_or, wp_not, wp_chain, wp_mt, wp_get, wp_isi, wp_fld, wp_sl, wp_oNone, wp_oSome, wp_tBool, wp_tTru, wp_tNot, wp_tAnd, wp_tOr, wp_tAll, wp_gSlot, wp_gsNil, wp_gsCons, wp_gTup, wp_gSub, wp_iAny, wp_iSeq, wp_iTup, wp_iStr, wp_iRange1, wp_iRange2, wp_iZip, wS_fld, wp_make, seqQ, rtQ, turnQ, List.getElem?_cons_zero, List.getElem?_cons_succ, List.set_cons_zero, List.set_cons_succ, wipeD, if_true, if_false, Bool.false_eq_true, Bool.true_eq_false, reduceIte, w_add, w_iadd, w_iaddS, w_addS, w_addL, w_addT, w_sub, w_mul, w_mod, w_fdiv, w_pow, w_neg, w_lt, w_le, w_gt, w_ge, w_eqI, w_neI, w_eqT, w_neT, w_isN, w_isnotN, w_isB, w_isNB, w_len, w_lenT, w_int, w_intB, w_abs, w_min, w_max, w_tup, w_lst, w_new, w_list, w_listN, w_ix, w_ixT, w_ixD, w_inT1, w_notinT1, w_inT2, w_notinT2, w_inT3, w_notinT3, w_inT4, w_notinT4, w_inT5, w_notinT5, w_inT6, w_notinT6, w_inT7, w_notinT7, w_inT8, w_notinT8, w_sl1, at_0, at_1, at_2, at_3, at_4, at_5, hasTy_list, hasTy_str, isNonD, flatD, sEq_T, List.all_cons, List.all_nil, List.any_cons, List.any_nil, Bool.and_true, Bool.true_and, Bool.or_false, Bool.or_true, Bool.true_or, Bool.false_or, Bool.not_true, Bool.not_false, List.length_cons, List.length_nil, Nat.zero_add, Nat.reduceAdd, line_eq, true_and, and_true, String.reduceBEq, Int.reduceBEq, decide_true, decide_false, Int.reduceLT, Int.reduceLE, beq_self_eq_true, Nat.reduceLeDiff]
    rw [rs ho.1]; exact k
  | copy a b =>
    unfold Ord.d; simp only [wp_ok, wp_bad, wp_bind, wS_ok, wS_bad, wS_cons, wS_nil, wS_pass, wS_break, wS_cont, wS_never, wS_set, wS_expr, wS_ret, wS_retN, wS_if, wS_asg, wS_aug, wS_for, wp_lc, wp_m1, wp_m2, wp_mN, wp_aNil, wp_aCons, wp_mC, wp_var, wp_if, wp_and, wp_or, wp_not, wp_chain, wp_mt, wp_get, wp_isi, wp_fld, wp_sl, wp_oNone, wp_oSome, wp_tBool, wp_tTru, wp_tNot, wp_tAnd, wp_tOr, wp_tAll, wp_gSlot, wp_gsNil, wp_gsCons, wp_gTup, wp_gSub, wp_iAny, wp_iSeq, wp_iTup, wp_iStr, wp_iRange1, wp_iRange2, wp_iZip, wS_fld, wp_make, seqQ, rtQ, turnQ, List.getElem?_cons_zero, List.getElem?_cons_succ, List.set_cons_zero, List.set_cons_succ, wipeD, if_true, if_false, Bool.false_eq_true, Bool.true_eq_false, reduceIte, w_add, w_iadd, w_iaddS, w_addS, w_addL, w_addT, w_sub, w_mul, w_mod, w_fdiv, w_pow, w_neg, w_lt, w_le, w_gt, w_ge, w_eqI, w_neI, w_eqT, w_neT, w_isN, w_isnotN, w_isB, w_isNB, w_len, w_lenT, w_int, w_intB, w_abs, w_min, w_max, w_tup, w_lst, w_new, w_list, w_listN, w_ix, w_ixT, w_ixD, w_inT1, w_notinT1, w_inT2, w_notinT2, w_inT3, w_notinT3, w_inT4, w_notinT4, w_inT5, w_notinT5, w_inT6, w_notinT6, w_inT7, w_notinT7, w_inT8, w_notinT8, w_sl1, at_0, at_1, at_2, at_3, at_4, at_5, hasTy_list, hasTy_str, isNonD, flatD, sEq_T, List.all_cons, List.all_nil, List.any_cons, List.any_nil, Bool.and_true, Bool.true_and, Bool.or_false, Bool.or_true, Bool.true_or, Bool.false_or, Bool.not_true, Bool.not_false, List.length_cons, List.length_nil, Nat.zero_add, Nat.reduceAdd, line_eq, true_and, and_true, String.reduceBEq, Int.reduceBEq, decide_true, decide_false, Int.reduceLT, Int.reduceLE, beq_self_eq_true, Nat.reduceLeDiff]
    rw [rx ho.2]; try simp only [wp_ok, wp_bad, wp_bind, wS_ok, wS_bad, wS_cons, wS_nil, wS_pass, wS_break, wS_cont, wS_never, wS_set, wS_expr, wS_ret, wS_retN, wS_if, wS_asg, wS_aug, wS_for, wp_lc, wp_m1, wp_m2, wp_mN, wp_aNil, wp_aCons, wp_mC, wp_var, wp_if, wp_and, wp_or, wp_not, wp_chain, wp_mt, wp_get, wp_isi, wp_fld, wp_sl, wp_oNone, wp_oSome, wp_tBool, wp_tTru, wp_tNot, wp_tAnd, wp_tOr, wp_tAll, wp_gSlot, wp_gsNil, wp_gsCons, wp_gTup, wp_gSub, wp_iAny, wp_iSeq, wp_iTup, wp_iStr, wp_iRange1, wp_iRange2, wp_iZip, wS_fld, wp_make, seqQ, rtQ, turnQ, List.getElem?_cons_zero, List.getElem?_cons_succ, List.set_cons_zero, List.set_cons_succ, wipeD, if_true, if_false, Bool.false_eq_true, Bool.true_eq_false, reduceIte, w_add, w_iadd, w_iaddS, w_addS, w_addL, w_addT, w_sub, w_mul, w_mod, w_fdiv, w_pow, w_neg, w_lt, w_le, w_gt, w_ge, w_eqI, w_neI, w_eqT, w_neT, w_isN, w_isnotN, w_isB, w_isNB, w_len, w_lenT, w_int, w_intB, w_abs, w_min, w_max, w_tup, w_lst, w_new, w_list, w_listN, w_ix, w_ixT, w_ixD, w_inT1, w_notinT1, w_inT2, w_notinT2, w_inT3, w_notinT3, w_inT4, w_notinT4, w_inT5, w_notinT5, w_inT6, w_notinT6, w_inT7, w_notinT7, w_inT8, w_notinT8, w_sl1, at_0, at_1, at_2, at_3, at_4, at_5, hasTy_list, hasTy_str, isNonD, flatD, sEq_T, List.all_cons, List.all_nil, List.any_cons, List.any_nil, Bool.and_true, Bool.true_and, Bool.or_false, Bool.or_true, Bool.true_or, Bool.false_or, Bool.not_true, Bool.not_false, List.length_cons, List.length_nil, Nat.zero_add, Nat.reduceAdd, line_eq, true_and, and_true, String.reduceBEq, Int.reduceBEq, decide_true, decide_false, Int.reduceLT, Int.reduceLE, beq_self_eq_true, Nat.reduceLeDiff]
    rw [rs ho.1]; exact k
  | add a b c =>
    unfold Ord.d; simp only [wp_ok, wp_bad, wp_bind, wS_ok, wS_bad, wS_cons, wS_nil, wS_pass, wS_break, wS_cont, wS_never, wS_set, wS_expr, wS_ret, wS_retN, wS_if, wS_asg, wS_aug, wS_for, wp_lc, wp_m1, wp_m2, wp_mN, wp_aNil, wp_aCons, wp_mC, wp_var, wp_if, wp_and, wp_or, wp_not, wp_chain, wp_mt, wp_get, wp_isi, wp_fld, wp_sl, wp_oNone, wp_oSome, wp_tBool, wp_tTru, wp_tNot, wp_tAnd, wp_tOr, wp_tAll, wp_gSlot, wp_gsNil, wp_gsCons, wp_gTup, wp_gSub, wp_iAny, wp_iSeq, wp_iTup, wp_iStr, wp_iRange1, wp_iRange2, wp_iZip, wS_fld, wp_make, seqQ, rtQ, turnQ, List.getElem?_cons_zero, List.getElem?_cons_succ, List.set_cons_zero, List.set_cons_succ, wipeD, if_true, if_false, Bool.false_eq_true, Bool.true_eq_false, reduceIte, w_add, w_iadd, w_iaddS, w_addS, w_addL, w_addT, w_sub, w_mul, w_mod, w_fdiv, w_pow, w_neg, w_lt, w_le, w_gt, w_ge, w_eqI, w_neI, w_eqT, w_neT, w_isN, w_isnotN, w_isB, w_isNB, w_len, w_lenT, w_int, w_intB, w_abs, w_min, w_max, w_tup, w_lst, w_new, w_list, w_listN, w_ix, w_ixT, w_ixD, w_inT1, w_notinT1, w_inT2, w_notinT2, w_inT3, w_notinT3, w_inT4, w_notinT4, w_inT5, w_notinT5, w_inT6, w_notinT6, w_inT7, w_notinT7, w_inT8, w_notinT8, w_sl1, at_0, at_1, at_2, at_3, at_4, at_5, hasTy_list, hasTy_str, isNonD, flatD, sEq_T, List.all_cons, List.all_nil, List.any_cons, List.any_nil, Bool.and_true, Bool.true_and, Bool.or_false, Bool.or_true, Bool.true_or, Bool.false_or, Bool.not_true, Bool.not_false, List.length_cons, List.length_nil, Nat.zero_add, Nat.reduceAdd, line_eq, true_and, and_true, String.reduceBEq, Int.reduceBEq, decide_true, decide_false, Int.reduceLT, Int.reduceLE, beq_self_eq_true, Nat.reduceLeDiff]
    rw [rx ho.2.1]; try simp only [wp_ok, wp_bad, wp_bind, wS_ok, wS_bad, wS_cons, wS_nil, wS_pass, wS_break, wS_cont, wS_never, wS_set, wS_expr, wS_ret, wS_retN, wS_if, wS_asg, wS_aug, wS_for, wp_lc, wp_m1, wp_m2, wp_mN, wp_aNil, wp_aCons, wp_mC, wp_var, wp_if, wp_and, wp_or, wp_not, wp_chain, wp_mt, wp_get, wp_isi, wp_fld, wp_sl, wp_oNone, wp_oSome, wp_tBool, wp_tTru, wp_tNot, wp_tAnd, wp_tOr, wp_tAll, wp_gSlot, wp_gsNil, wp_gsCons, wp_gTup, wp_gSub, wp_iAny, wp_iSeq, wp_iTup, wp_iStr, wp_iRange1, wp_iRange2, wp_iZip, wS_fld, wp_make, seqQ, rtQ, turnQ, List.getElem?_cons_zero, List.getElem?_cons_succ, List.set_cons_zero, List.set_cons_succ, wipeD, if_true, if_false, Bool.false_eq_true, Bool.true_eq_false, reduceIte, w_add, w_iadd, w_iaddS, w_addS, w_addL, w_addT, w_sub, w_mul, w_mod, w_fdiv, w_pow, w_neg, w_lt, w_le, w_gt, w_ge, w_eqI, w_neI, w_eqT, w_neT, w_isN, w_isnotN, w_isB, w_isNB, w_len, w_lenT, w_int, w_intB, w_abs, w_min, w_max, w_tup, w_lst, w_new, w_list, w_listN, w_ix, w_ixT, w_ixD, w_inT1, w_notinT1, w_inT2, w_notinT2, w_inT3, w_notinT3, w_inT4, w_notinT4, w_inT5, w_notinT5, w_inT6, w_notinT6, w_inT7, w_notinT7, w_inT8, w_notinT8, w_sl1, at_0, at_1, at_2, at_3, at_4, at_5, hasTy_list, hasTy_str, isNonD, flatD, sEq_T, List.all_cons, List.all_nil, List.any_cons, List.any_nil, Bool.and_true, Bool.true_and, Bool.or_false, Bool.or_true, Bool.true_or, Bool.false_or, Bool.not_true, Bool.not_false, List.length_cons, List.length_nil, Nat.zero_add, Nat.reduceAdd, line_eq, true_and, and_true, String.reduceBEq, Int.reduceBEq, decide_true, decide_false, Int.reduceLT, Int.reduceLE, beq_self_eq_true, Nat.reduceLeDiff]
    rw [rx ho.2.2]; try simp only [wp_ok, wp_bad, wp_bind, wS_ok, wS_bad, wS_cons, wS_nil, wS_pass, wS_break, wS_cont, wS_never, wS_set, wS_expr, wS_ret, wS_retN, wS_if, wS_asg, wS_aug, wS_for, wp_lc, wp_m1, wp_m2, wp_mN, wp_aNil, wp_aCons, wp_mC, wp_var, wp_if, wp_and, wp_or, wp_not, wp_chain, wp_mt, wp_get, wp_isi, wp_fld, wp_sl, wp_oNone, wp_oSome, wp_tBool, wp_tTru, wp_tNot, wp_tAnd, wp_tOr, wp_tAll, wp_gSlot, wp_gsNil, wp_gsCons, wp_gTup, wp_gSub, wp_iAny, wp_iSeq, wp_iTup, wp_iStr, wp_iRange1, wp_iRange2, wp_iZip, wS_fld, wp_make, seqQ, rtQ, turnQ, List.getElem?_cons_zero, List.getElem?_cons_succ, List.set_cons_zero, List.set_cons_succ, wipeD, if_true, if_false, Bool.false_eq_true, Bool.true_eq_false, reduceIte, w_add, w_iadd, w_iaddS, w_addS, w_addL, w_addT, w_sub, w_mul, w_mod, w_fdiv, w_pow, w_neg, w_lt, w_le, w_gt, w_ge, w_eqI, w_neI, w_eqT, w_neT, w_isN, w_isnotN, w_isB, w_isNB, w_len, w_lenT, w_int, w_intB, w_abs, w_min, w_max, w_tup, w_lst, w_new, w_list, w_listN, w_ix, w_ixT, w_ixD, w_inT1, w_notinT1, w_inT2, w_notinT2, w_inT3, w_notinT3, w_inT4, w_notinT4, w_inT5, w_notinT5, w_inT6, w_notinT6, w_inT7, w_notinT7, w_inT8, w_notinT8, w_sl1, at_0, at_1, at_2, at_3, at_4, at_5, hasTy_list, hasTy_str, isNonD, flatD, sEq_T, List.all_cons, List.all_nil, List.any_cons, List.any_nil, Bool.and_true, Bool.true_and, Bool.or_false, Bool.or_true, Bool.true_or, Bool.false_or, Bool.not_true, Bool.not_false, List.length_cons, List.length_nil, Nat.zero_add, Nat.reduceAdd, line_eq, true_and, and_true, String.reduceBEq, Int.reduceBEq, decide_true, decide_false, Int.reduceLT, Int.reduceLE, beq_self_eq_true, Nat.reduceLeDiff]
    rw [rs ho.1]; exact k
  | times a b v =>
    unfold Ord.d; simp only [wp_ok, wp_bad, wp_bind, wS_ok, wS_bad, wS_cons, wS_nil, wS_pass, wS_break, wS_cont, wS_never, wS_set, wS_expr, wS_ret, wS_retN, wS_if, wS_asg, wS_aug, wS_for, wp_lc, wp_m1, wp_m2, wp_mN, wp_aNil, wp_aCons, wp_mC, wp_var, wp_if, wp_and, wp_or, wp_not, wp_chain, wp_mt, wp_get, wp_isi, wp_fld, wp_sl, wp_oNone, wp_oSome, wp_tBool, wp_tTru, wp_tNot, wp_tAnd, wp_tOr, wp_tAll, wp_gSlot, wp_gsNil, wp_gsCons, wp_gTup, wp_gSub, wp_iAny, wp_iSeq, wp_iTup, wp_iStr, wp_iRange1, wp_iRange2, wp_iZip, wS_fld, wp_make, seqQ, rtQ, turnQ, List.getElem?_cons_zero, List.getElem?_cons_succ, List.set_cons_zero, List.set_cons_succ, wipeD, if_true, if_false, Bool.false_eq_true, Bool.true_eq_false, reduceIte, w_add, w_iadd, w_iaddS, w_addS, w_addL, w_addT, w_sub, w_mul, w_mod, w_fdiv, w_pow, w_neg, w_lt, w_le, w_gt, w_ge, w_eqI, w_neI, w_eqT, w_neT, w_isN, w_isnotN, w_isB, w_isNB, w_len, w_lenT, w_int, w_intB, w_abs, w_min, w_max, w_tup, w_lst, w_new, w_list, w_listN, w_ix, w_ixT, w_ixD, w_inT1, w_notinT1, w_inT2, w_notinT2, w_inT3, w_notinT3, w_inT4, w_notinT4, w_inT5, w_notinT5, w_inT6, w_notinT6, w_inT7, w_notinT7, w_inT8, w_notinT8, w_sl1, at_0, at_1, at_2, at_3, at_4, at_5, hasTy_list, hasTy_str, isNonD, flatD, sEq_T, List.all_cons, List.all_nil, List.any_cons, List.any_nil, Bool.and_true, Bool.true_and, Bool.or_false, Bool.or_true, Bool.true_or, Bool.false_or, Bool.not_true, Bool.not_false, List.length_cons, List.length_nil, Nat.zero_add, Nat.reduceAdd, line_eq, true_and, and_true, String.reduceBEq, Int.reduceBEq, decide_true, decide_false, Int.reduceLT, Int.reduceLE, beq_self_eq_true, Nat.reduceLeDiff]
    rw [rx ho.2.1]; try simp only [wp_ok, wp_bad, wp_bind, wS_ok, wS_bad, wS_cons, wS_nil, wS_pass, wS_break, wS_cont, wS_never, wS_set, wS_expr, wS_ret, wS_retN, wS_if, wS_asg, wS_aug, wS_for, wp_lc, wp_m1, wp_m2, wp_mN, wp_aNil, wp_aCons, wp_mC, wp_var, wp_if, wp_and, wp_or, wp_not, wp_chain, wp_mt, wp_get, wp_isi, wp_fld, wp_sl, wp_oNone, wp_oSome, wp_tBool, wp_tTru, wp_tNot, wp_tAnd, wp_tOr, wp_tAll, wp_gSlot, wp_gsNil, wp_gsCons, wp_gTup, wp_gSub, wp_iAny, wp_iSeq, wp_iTup, wp_iStr, wp_iRange1, wp_iRange2, wp_iZip, wS_fld, wp_make, seqQ, rtQ, turnQ, List.getElem?_cons_zero, List.getElem?_cons_succ, List.set_cons_zero, List.set_cons_succ, wipeD, if_true, if_false, Bool.false_eq_true, Bool.true_eq_false, reduceIte, w_add, w_iadd, w_iaddS, w_addS, w_addL, w_addT, w_sub, w_mul, w_mod, w_fdiv, w_pow, w_neg, w_lt, w_le, w_gt, w_ge, w_eqI, w_neI, w_eqT, w_neT, w_isN, w_isnotN, w_isB, w_isNB, w_len, w_lenT, w_int, w_intB, w_abs, w_min, w_max, w_tup, w_lst, w_new, w_list, w_listN, w_ix, w_ixT, w_ixD, w_inT1, w_notinT1, w_inT2, w_notinT2, w_inT3, w_notinT3, w_inT4, w_notinT4, w_inT5, w_notinT5, w_inT6, w_notinT6, w_inT7, w_notinT7, w_inT8, w_notinT8, w_sl1, at_0, at_1, at_2, at_3, at_4, at_5, hasTy_list, hasTy_str, isNonD, flatD, sEq_T, List.all_cons, List.all_nil, List.any_cons, List.any_nil, Bool.and_true, Bool.true_and, Bool.or_false, Bool.or_true, Bool.true_or, Bool.false_or, Bool.not_true, Bool.not_false, List.length_cons, List.length_nil, Nat.zero_add, Nat.reduceAdd, line_eq, true_and, and_true, String.reduceBEq, Int.reduceBEq, decide_true, decide_false, Int.reduceLT, Int.reduceLE, beq_self_eq_true, Nat.reduceLeDiff]
    refine ⟨?_, ?_⟩
    · have h1 := bits_le (h.get ho.2.1).2 ha
      have h2 : iBits v ≤ 32 := small_bits (k := 32) (by have := ho.2.2.1; have := ho.2.2.2; omega)
      omega
    · rw [rs ho.1]; exact k
  | over a d =>
    unfold Ord.d; simp only [wp_ok, wp_bad, wp_bind, wS_ok, wS_bad, wS_cons, wS_nil, wS_pass, wS_break, wS_cont, wS_never, wS_set, wS_expr, wS_ret, wS_retN, wS_if, wS_asg, wS_aug, wS_for, wp_lc, wp_m1, wp_m2, wp_mN, wp_aNil, wp_aCons, wp_mC, wp_var, wp_if, wp_and, wp_or, wp_not, wp_chain, wp_mt, wp_get, wp_isi, wp_fld, wp_sl, wp_oNone, wp_oSome, wp_tBool, wp_tTru, wp_tNot, wp_tAnd, wp_tOr, wp_tAll, wp_gSlot, wp_gsNil, wp_gsCons, wp_gTup, wp_gSub, wp_iAny, wp_iSeq, wp_iTup, wp_iStr, wp_iRange1, wp_iRange2, wp_iZip, wS_fld, wp_make, seqQ, rtQ, turnQ, List.getElem?_cons_zero, List.getElem?_cons_succ, List.set_cons_zero, List.set_cons_succ, wipeD, if_true, if_false, Bool.false_eq_true, Bool.true_eq_false, reduceIte, w_add, w_iadd, w_iaddS, w_addS, w_addL, w_addT, w_sub, w_mul, w_mod, w_fdiv, w_pow, w_neg, w_lt, w_le, w_gt, w_ge, w_eqI, w_neI, w_eqT, w_neT, w_isN, w_isnotN, w_isB, w_isNB, w_len, w_lenT, w_int, w_intB, w_abs, w_min, w_max, w_tup, w_lst, w_new, w_list, w_listN, w_ix, w_ixT, w_ixD, w_inT1, w_notinT1, w_inT2, w_notinT2, w_inT3, w_notinT3, w_inT4, w_notinT4, w_inT5, w_notinT5, w_inT6, w_notinT6, w_inT7, w_notinT7, w_inT8, w_notinT8, w_sl1, at_0, at_1, at_2, at_3, at_4, at_5, hasTy_list, hasTy_str, isNonD, flatD, sEq_T, List.all_cons, List.all_nil, List.any_cons, List.any_nil, Bool.and_true, Bool.true_and, Bool.or_false, Bool.or_true, Bool.true_or, Bool.false_or, Bool.not_true, Bool.not_false, List.length_cons, List.length_nil, Nat.zero_add, Nat.reduceAdd, line_eq, true_and, and_true, String.reduceBEq, Int.reduceBEq, decide_true, decide_false, Int.reduceLT, Int.reduceLE, beq_self_eq_true, Nat.reduceLeDiff]
    refine ⟨⟨by have := ho.2.1; omega, log_small ho.2.1 ho.2.2⟩, ?_⟩
    rw [rs ho.1]; exact k
  | rest a d =>
    unfold Ord.d; simp only [wp_ok, wp_bad, wp_bind, wS_ok, wS_bad, wS_cons, wS_nil, wS_pass, wS_break, wS_cont, wS_never, wS_set, wS_expr, wS_ret, wS_retN, wS_if, wS_asg, wS_aug, wS_for, wp_lc, wp_m1, wp_m2, wp_mN, wp_aNil, wp_aCons, wp_mC, wp_var, wp_if, wp_and, wp_or, wp_not, wp_chain, wp_mt, wp_get, wp_isi, wp_fld, wp_sl, wp_oNone, wp_oSome, wp_tBool, wp_tTru, wp_tNot, wp_tAnd, wp_tOr, wp_tAll, wp_gSlot, wp_gsNil, wp_gsCons, wp_gTup, wp_gSub, wp_iAny, wp_iSeq, wp_iTup, wp_iStr, wp_iRange1, wp_iRange2, wp_iZip, wS_fld, wp_make, seqQ, rtQ, turnQ, List.getElem?_cons_zero, List.getElem?_cons_succ, List.set_cons_zero, List.set_cons_succ, wipeD, if_true, if_false, Bool.false_eq_true, Bool.true_eq_false, reduceIte, w_add, w_iadd, w_iaddS, w_addS, w_addL, w_addT, w_sub, w_mul, w_mod, w_fdiv, w_pow, w_neg, w_lt, w_le, w_gt, w_ge, w_eqI, w_neI, w_eqT, w_neT, w_isN, w_isnotN, w_isB, w_isNB, w_len, w_lenT, w_int, w_intB, w_abs, w_min, w_max, w_tup, w_lst, w_new, w_list, w_listN, w_ix, w_ixT, w_ixD, w_inT1, w_notinT1, w_inT2, w_notinT2, w_inT3, w_notinT3, w_inT4, w_notinT4, w_inT5, w_notinT5, w_inT6, w_notinT6, w_inT7, w_notinT7, w_inT8, w_notinT8, w_sl1, at_0, at_1, at_2, at_3, at_4, at_5, hasTy_list, hasTy_str, isNonD, flatD, sEq_T, List.all_cons, List.all_nil, List.any_cons, List.any_nil, Bool.and_true, Bool.true_and, Bool.or_false, Bool.or_true, Bool.true_or, Bool.false_or, Bool.not_true, Bool.not_false, List.length_cons, List.length_nil, Nat.zero_add, Nat.reduceAdd, line_eq, true_and, and_true, String.reduceBEq, Int.reduceBEq, decide_true, decide_false, Int.reduceLT, Int.reduceLE, beq_self_eq_true, Nat.reduceLeDiff]
    refine ⟨by have := ho.2.1; omega, ?_⟩
    rw [rs ho.1]; exact k
  | less a b c => unfold Ord.d; simp only [wp_ok, wp_bad, wp_bind, wS_ok, wS_bad, wS_cons, wS_nil, wS_pass, wS_break, wS_cont, wS_never, wS_set, wS_expr, wS_ret, wS_retN, wS_if, wS_asg, wS_aug, wS_for, wp_lc, wp_m1, wp_m2, wp_mN, wp_aNil, wp_aCons, wp_mC, wp_var, wp_if, wp_and, wp_or, wp_not, wp_chain, wp_mt, wp_get, wp_isi, wp_fld, wp_sl, wp_oNone, wp_oSome, wp_tBool, wp_tTru, wp_tNot, wp_tAnd, wp_tOr, wp_tAll, wp_gSlot, wp_gsNil, wp_gsCons, wp_gTup, wp_gSub, wp_iAny, wp_iSeq, wp_iTup, wp_iStr, wp_iRange1, wp_iRange2, wp_iZip, wS_fld, wp_make, seqQ, rtQ, turnQ, List.getElem?_cons_zero, List.getElem?_cons_succ, List.set_cons_zero, List.set_cons_succ, wipeD, if_true, if_false, Bool.false_eq_true, Bool.true_eq_false, reduceIte, w_add, w_iadd, w_iaddS, w_addS, w_addL, w_addT, w_sub, w_mul, w_mod, w_fdiv, w_pow, w_neg, w_lt, w_le, w_gt, w_ge, w_eqI, w_neI, w_eqT, w_neT, w_isN, w_isnotN, w_isB, w_isNB, w_len, w_lenT, w_int, w_intB, w_abs, w_min, w_max, w_tup, w_lst, w_new, w_list, w_listN, w_ix, w_ixT, w_ixD, w_inT1, w_notinT1, w_inT2, w_notinT2, w_inT3, w_notinT3, w_inT4, w_notinT4, w_inT5, w_notinT5, w_inT6, w_notinT6, w_inT7, w_notinT7, w_inT8, w_notinT8, w_sl1, at_0, at_1, at_2, at_3, at_4, at_5, hasTy_list, hasTy_str, isNonD, flatD, sEq_T, List.all_cons, List.all_nil, List.any_cons, List.any_nil, Bool.and_true, Bool.true_and, Bool.or_false, Bool.or_true, Bool.true_or, Bool.false_or, Bool.not_true, Bool.not_false, List.length_cons, List.length_nil, Nat.zero_add, Nat.reduceAdd, line_eq, true_and, and_true, String.reduceBEq, Int.reduceBEq, decide_true, decide_false, Int.reduceLT, Int.reduceLE, beq_self_eq_true, Nat.reduceLeDiff]; exact k
  | same a b c => unfold Ord.d; simp only [wp_ok, wp_bad, wp_bind, wS_ok, wS_bad, wS_cons, wS_nil, wS_pass, wS_break, wS_cont, wS_never, wS_set, wS_expr, wS_ret, wS_retN, wS_if, wS_asg, wS_aug, wS_for, wp_lc, wp_m1, wp_m2, wp_mN, wp_aNil, wp_aCons, wp_mC, wp_var, wp_if, wp_and, wp_or, wp_not, wp_chain, wp_mt, wp_get, wp_isi, wp_fld, wp_sl, wp_oNone, wp_oSome, wp_tBool, wp_tTru, wp_tNot, wp_tAnd, wp_tOr, wp_tAll, wp_gSlot, wp_gsNil, wp_gsCons, wp_gTup, wp_gSub, wp_iAny, wp_iSeq, wp_iTup, wp_iStr, wp_iRange1, wp_iRange2, wp_iZip, wS_fld, wp_make, seqQ, rtQ, turnQ, List.getElem?_cons_zero, List.getElem?_cons_succ, List.set_cons_zero, List.set_cons_succ, wipeD, if_true, if_false, Bool.false_eq_true, Bool.true_eq_false, reduceIte, w_add, w_iadd, w_iaddS, w_addS, w_addL, w_addT, w_sub, w_mul, w_mod, w_fdiv, w_pow, w_neg, w_lt, w_le, w_gt, w_ge, w_eqI, w_neI, w_eqT, w_neT, w_isN, w_isnotN, w_isB, w_isNB, w_len, w_lenT, w_int, w_intB, w_abs, w_min, w_max, w_tup, w_lst, w_new, w_list, w_listN, w_ix, w_ixT, w_ixD, w_inT1, w_notinT1, w_inT2, w_notinT2, w_inT3, w_notinT3, w_inT4, w_notinT4, w_inT5, w_notinT5, w_inT6, w_notinT6, w_inT7, w_notinT7, w_inT8, w_notinT8, w_sl1, at_0, at_1, at_2, at_3, at_4, at_5, hasTy_list, hasTy_str, isNonD, flatD, sEq_T, List.all_cons, List.all_nil, List.any_cons, List.any_nil, Bool.and_true, Bool.true_and, Bool.or_false, Bool.or_true, Bool.true_or, Bool.false_or, Bool.not_true, Bool.not_false, List.length_cons, List.length_nil, Nat.zero_add, Nat.reduceAdd, line_eq, true_and, and_true, String.reduceBEq, Int.reduceBEq, decide_true, decide_false, Int.reduceLT, Int.reduceLE, beq_self_eq_true, Nat.reduceLeDiff]; exact k
  | skip c => unfold Ord.d; simp only [wp_ok, wp_bad, wp_bind, wS_ok, wS_bad, wS_cons, wS_nil, wS_pass, wS_break, wS_cont, wS_never, wS_set, wS_expr, wS_ret, wS_retN, wS_if, wS_asg, wS_aug, wS_for, wp_lc, wp_m1, wp_m2, wp_mN, wp_aNil, wp_aCons, wp_mC, wp_var, wp_if, wp_and, wp_or, wp_not, wp_chain, wp_mt, wp_get, wp_isi, wp_fld, wp_sl, wp_oNone, wp_oSome, wp_tBool, wp_tTru, wp_tNot, wp_tAnd, wp_tOr, wp_tAll, wp_gSlot, wp_gsNil, wp_gsCons, wp_gTup, wp_gSub, wp_iAny, wp_iSeq, wp_iTup, wp_iStr, wp_iRange1, wp_iRange2, wp_iZip, wS_fld, wp_make, seqQ, rtQ, turnQ, List.getElem?_cons_zero, List.getElem?_cons_succ, List.set_cons_zero, List.set_cons_succ, wipeD, if_true, if_false, Bool.false_eq_true, Bool.true_eq_false, reduceIte, w_add, w_iadd, w_iaddS, w_addS, w_addL, w_addT, w_sub, w_mul, w_mod, w_fdiv, w_pow, w_neg, w_lt, w_le, w_gt, w_ge, w_eqI, w_neI, w_eqT, w_neT, w_isN, w_isnotN, w_isB, w_isNB, w_len, w_lenT, w_int, w_intB, w_abs, w_min, w_max, w_tup, w_lst, w_new, w_list, w_listN, w_ix, w_ixT, w_ixD, w_inT1, w_notinT1, w_inT2, w_notinT2, w_inT3, w_notinT3, w_inT4, w_notinT4, w_inT5, w_notinT5, w_inT6, w_notinT6, w_inT7, w_notinT7, w_inT8, w_notinT8, w_sl1, at_0, at_1, at_2, at_3, at_4, at_5, hasTy_list, hasTy_str, isNonD, flatD, sEq_T, List.all_cons, List.all_nil, List.any_cons, List.any_nil, Bool.and_true, Bool.true_and, Bool.or_false, Bool.or_true, Bool.true_or, Bool.false_or, Bool.not_true, Bool.not_false, List.length_cons, List.length_nil, Nat.zero_add, Nat.reduceAdd, line_eq, true_and, and_true, String.reduceBEq, Int.reduceBEq, decide_true, decide_false, Int.reduceLT, Int.reduceLE, beq_self_eq_true, Nat.reduceLeDiff]; exact k
  | answer a => cases hon
  | lose => cases hon
theorem skip_wp {r : List Int} {at_ at' : Nat} {o : Ord} {b : Int} (h : Bd at' r) (ho : o.ok b) (hon : o.on = true) (k : Q (.int ((o.to at_ r : Nat) - (at_ : Nat) - 1)) [A, B, .lst (r.map .int), G]) : wp (f_skipped [o.d, .ref 2] [A, B, .lst (r.map .int), G]) Q := by
  refine (wp_fn (n := 2) (tot := 2) (m := m_skipped) rfl).mpr ?_
  show wS (m_skipped [some o.d, some (.ref 2)] _) _
  have rx : ∀ {a : Int} {Q : D → S → Prop}, rg a → wp (dIx (.ref 2) (.int a) [A, B, .lst (r.map .int), G]) Q = Q (.int (get r a)) [A, B, .lst (r.map .int), G] := fun ha => reg_ix rfl h ha
  have e0 : ((at_ + 1 : Nat) : Int) - (at_ : Nat) - 1 = 0 := by omega
  have ek : ∀ c : Int, 0 ≤ c → ((at_ + 1 + c.toNat : Nat) : Int) - (at_ : Nat) - 1 = c := fun c hc => by omega
  unfold m_skipped
  cases o with
  | less a b c =>
    unfold Ord.d; simp only [wp_ok, wp_bad, wp_bind, wS_ok, wS_bad, wS_cons, wS_nil, wS_pass, wS_break, wS_cont, wS_never, wS_set, wS_expr, wS_ret, wS_retN, wS_if, wS_asg, wS_aug, wS_for, wp_lc, wp_m1, wp_m2, wp_mN, wp_aNil, wp_aCons, wp_mC, wp_var, wp_if, wp_and, wp_or, wp_not, wp_chain, wp_mt, wp_get, wp_isi, wp_fld, wp_sl, wp_oNone, wp_oSome, wp_tBool, wp_tTru, wp_tNot, wp_tAnd, wp_tOr, wp_tAll, wp_gSlot, wp_gsNil, wp_gsCons, wp_gTup, wp_gSub, wp_iAny, wp_iSeq, wp_iTup, wp_iStr, wp_iRange1, wp_iRange2, wp_iZip, wS_fld, wp_make, seqQ, rtQ, turnQ, List.getElem?_cons_zero, List.getElem?_cons_succ, List.set_cons_zero, List.set_cons_succ, wipeD, if_true, if_false, Bool.false_eq_true, Bool.true_eq_false, reduceIte, w_add, w_iadd, w_iaddS, w_addS, w_addL, w_addT, w_sub, w_mul, w_mod, w_fdiv, w_pow, w_neg, w_lt, w_le, w_gt, w_ge, w_eqI, w_neI, w_eqT, w_neT, w_isN, w_isnotN, w_isB, w_isNB, w_len, w_lenT, w_int, w_intB, w_abs, w_min, w_max, w_tup, w_lst, w_new, w_list, w_listN, w_ix, w_ixT, w_ixD, w_inT1, w_notinT1, w_inT2, w_notinT2, w_inT3, w_notinT3, w_inT4, w_notinT4, w_inT5, w_notinT5, w_inT6, w_notinT6, w_inT7, w_notinT7, w_inT8, w_notinT8, w_sl1, at_0, at_1, at_2, at_3, at_4, at_5, hasTy_list, hasTy_str, isNonD, flatD, sEq_T, List.all_cons, List.all_nil, List.any_cons, List.any_nil, Bool.and_true, Bool.true_and, Bool.or_false, Bool.or_true, Bool.true_or, Bool.false_or, Bool.not_true, Bool.not_false, List.length_cons, List.length_nil, Nat.zero_add, Nat.reduceAdd, line_eq, true_and, and_true, String.reduceBEq, Int.reduceBEq, decide_true, decide_false, Int.reduceLT, Int.reduceLE, beq_self_eq_true, Nat.reduceLeDiff]
    rw [rx ho.1]; try simp only [wp_ok, wp_bad, wp_bind, wS_ok, wS_bad, wS_cons, wS_nil, wS_pass, wS_break, wS_cont, wS_never, wS_set, wS_expr, wS_ret, wS_retN, wS_if, wS_asg, wS_aug, wS_for, wp_lc, wp_m1, wp_m2, wp_mN, wp_aNil, wp_aCons, wp_mC, wp_var, wp_if, wp_and, wp_or, wp_not, wp_chain, wp_mt, wp_get, wp_isi, wp_fld, wp_sl, wp_oNone, wp_oSome, wp_tBool, wp_tTru, wp_tNot, wp_tAnd, wp_tOr, wp_tAll, wp_gSlot, wp_gsNil, wp_gsCons, wp_gTup, wp_gSub, wp_iAny, wp_iSeq, wp_iTup, wp_iStr, wp_iRange1, wp_iRange2, wp_iZip, wS_fld, wp_make, seqQ, rtQ, turnQ, List.getElem?_cons_zero, List.getElem?_cons_succ, List.set_cons_zero, List.set_cons_succ, wipeD, if_true, if_false, Bool.false_eq_true, Bool.true_eq_false, reduceIte, w_add, w_iadd, w_iaddS, w_addS, w_addL, w_addT, w_sub, w_mul, w_mod, w_fdiv, w_pow, w_neg, w_lt, w_le, w_gt, w_ge, w_eqI, w_neI, w_eqT, w_neT, w_isN, w_isnotN, w_isB, w_isNB, w_len, w_lenT, w_int, w_intB, w_abs, w_min, w_max, w_tup, w_lst, w_new, w_list, w_listN, w_ix, w_ixT, w_ixD, w_inT1, w_notinT1, w_inT2, w_notinT2, w_inT3, w_notinT3, w_inT4, w_notinT4, w_inT5, w_notinT5, w_inT6, w_notinT6, w_inT7, w_notinT7, w_inT8, w_notinT8, w_sl1, at_0, at_1, at_2, at_3, at_4, at_5, hasTy_list, hasTy_str, isNonD, flatD, sEq_T, List.all_cons, List.all_nil, List.any_cons, List.any_nil, Bool.and_true, Bool.true_and, Bool.or_false, Bool.or_true, Bool.true_or, Bool.false_or, Bool.not_true, Bool.not_false, List.length_cons, List.length_nil, Nat.zero_add, Nat.reduceAdd, line_eq, true_and, and_true, String.reduceBEq, Int.reduceBEq, decide_true, decide_false, Int.reduceLT, Int.reduceLE, beq_self_eq_true, Nat.reduceLeDiff]
    rw [rx ho.2.1]; try simp only [wp_ok, wp_bad, wp_bind, wS_ok, wS_bad, wS_cons, wS_nil, wS_pass, wS_break, wS_cont, wS_never, wS_set, wS_expr, wS_ret, wS_retN, wS_if, wS_asg, wS_aug, wS_for, wp_lc, wp_m1, wp_m2, wp_mN, wp_aNil, wp_aCons, wp_mC, wp_var, wp_if, wp_and, wp_or, wp_not, wp_chain, wp_mt, wp_get, wp_isi, wp_fld, wp_sl, wp_oNone, wp_oSome, wp_tBool, wp_tTru, wp_tNot, wp_tAnd, wp_tOr, wp_tAll, wp_gSlot, wp_gsNil, wp_gsCons, wp_gTup, wp_gSub, wp_iAny, wp_iSeq, wp_iTup, wp_iStr, wp_iRange1, wp_iRange2, wp_iZip, wS_fld, wp_make, seqQ, rtQ, turnQ, List.getElem?_cons_zero, List.getElem?_cons_succ, List.set_cons_zero, List.set_cons_succ, wipeD, if_true, if_false, Bool.false_eq_true, Bool.true_eq_false, reduceIte, w_add, w_iadd, w_iaddS, w_addS, w_addL, w_addT, w_sub, w_mul, w_mod, w_fdiv, w_pow, w_neg, w_lt, w_le, w_gt, w_ge, w_eqI, w_neI, w_eqT, w_neT, w_isN, w_isnotN, w_isB, w_isNB, w_len, w_lenT, w_int, w_intB, w_abs, w_min, w_max, w_tup, w_lst, w_new, w_list, w_listN, w_ix, w_ixT, w_ixD, w_inT1, w_notinT1, w_inT2, w_notinT2, w_inT3, w_notinT3, w_inT4, w_notinT4, w_inT5, w_notinT5, w_inT6, w_notinT6, w_inT7, w_notinT7, w_inT8, w_notinT8, w_sl1, at_0, at_1, at_2, at_3, at_4, at_5, hasTy_list, hasTy_str, isNonD, flatD, sEq_T, List.all_cons, List.all_nil, List.any_cons, List.any_nil, Bool.and_true, Bool.true_and, Bool.or_false, Bool.or_true, Bool.true_or, Bool.false_or, Bool.not_true, Bool.not_false, List.length_cons, List.length_nil, Nat.zero_add, Nat.reduceAdd, line_eq, true_and, and_true, String.reduceBEq, Int.reduceBEq, decide_true, decide_false, Int.reduceLT, Int.reduceLE, beq_self_eq_true, Nat.reduceLeDiff]
    simp only [Ord.to] at k
    split
    · rename_i hg
      rw [if_pos (of_decide_eq_true hg), ek c ho.2.2.1] at k
      exact k
    · rename_i hg
      rw [if_neg (fun z => hg (decide_eq_true z)), e0] at k
      exact k
  | same a b c =>
    unfold Ord.d; simp only [wp_ok, wp_bad, wp_bind, wS_ok, wS_bad, wS_cons, wS_nil, wS_pass, wS_break, wS_cont, wS_never, wS_set, wS_expr, wS_ret, wS_retN, wS_if, wS_asg, wS_aug, wS_for, wp_lc, wp_m1, wp_m2, wp_mN, wp_aNil, wp_aCons, wp_mC, wp_var, wp_if, wp_and, wp_or, wp_not, wp_chain, wp_mt, wp_get, wp_isi, wp_fld, wp_sl, wp_oNone, wp_oSome, wp_tBool, wp_tTru, wp_tNot, wp_tAnd, wp_tOr, wp_tAll, wp_gSlot, wp_gsNil, wp_gsCons, wp_gTup, wp_gSub, wp_iAny, wp_iSeq, wp_iTup, wp_iStr, wp_iRange1, wp_iRange2, wp_iZip, wS_fld, wp_make, seqQ, rtQ, turnQ, List.getElem?_cons_zero, List.getElem?_cons_succ, List.set_cons_zero, List.set_cons_succ, wipeD, if_true, if_false, Bool.false_eq_true, Bool.true_eq_false, reduceIte, w_add, w_iadd, w_iaddS, w_addS, w_addL, w_addT, w_sub, w_mul, w_mod, w_fdiv, w_pow, w_neg, w_lt, w_le, w_gt, w_ge, w_eqI, w_neI, w_eqT, w_neT, w_isN, w_isnotN, w_isB, w_isNB, w_len, w_lenT, w_int, w_intB, w_abs, w_min, w_max, w_tup, w_lst, w_new, w_list, w_listN, w_ix, w_ixT, w_ixD, w_inT1, w_notinT1, w_inT2, w_notinT2, w_inT3, w_notinT3, w_inT4, w_notinT4, w_inT5, w_notinT5, w_inT6, w_notinT6, w_inT7, w_notinT7, w_inT8, w_notinT8, w_sl1, at_0, at_1, at_2, at_3, at_4, at_5, hasTy_list, hasTy_str, isNonD, flatD, sEq_T, List.all_cons, List.all_nil, List.any_cons, List.any_nil, Bool.and_true, Bool.true_and, Bool.or_false, Bool.or_true, Bool.true_or, Bool.false_or, Bool.not_true, Bool.not_false, List.length_cons, List.length_nil, Nat.zero_add, Nat.reduceAdd, line_eq, true_and, and_true, String.reduceBEq, Int.reduceBEq, decide_true, decide_false, Int.reduceLT, Int.reduceLE, beq_self_eq_true, Nat.reduceLeDiff]
    rw [rx ho.1]; try simp only [wp_ok, wp_bad, wp_bind, wS_ok, wS_bad, wS_cons, wS_nil, wS_pass, wS_break, wS_cont, wS_never, wS_set, wS_expr, wS_ret, wS_retN, wS_if, wS_asg, wS_aug, wS_for, wp_lc, wp_m1, wp_m2, wp_mN, wp_aNil, wp_aCons, wp_mC, wp_var, wp_if, wp_and, wp_or, wp_not, wp_chain, wp_mt, wp_get, wp_isi, wp_fld, wp_sl, wp_oNone, wp_oSome, wp_tBool, wp_tTru, wp_tNot, wp_tAnd, wp_tOr, wp_tAll, wp_gSlot, wp_gsNil, wp_gsCons, wp_gTup, wp_gSub, wp_iAny, wp_iSeq, wp_iTup, wp_iStr, wp_iRange1, wp_iRange2, wp_iZip, wS_fld, wp_make, seqQ, rtQ, turnQ, List.getElem?_cons_zero, List.getElem?_cons_succ, List.set_cons_zero, List.set_cons_succ, wipeD, if_true, if_false, Bool.false_eq_true, Bool.true_eq_false, reduceIte, w_add, w_iadd, w_iaddS, w_addS, w_addL, w_addT, w_sub, w_mul, w_mod, w_fdiv, w_pow, w_neg, w_lt, w_le, w_gt, w_ge, w_eqI, w_neI, w_eqT, w_neT, w_isN, w_isnotN, w_isB, w_isNB, w_len, w_lenT, w_int, w_intB, w_abs, w_min, w_max, w_tup, w_lst, w_new, w_list, w_listN, w_ix, w_ixT, w_ixD, w_inT1, w_notinT1, w_inT2, w_notinT2, w_inT3, w_notinT3, w_inT4, w_notinT4, w_inT5, w_notinT5, w_inT6, w_notinT6, w_inT7, w_notinT7, w_inT8, w_notinT8, w_sl1, at_0, at_1, at_2, at_3, at_4, at_5, hasTy_list, hasTy_str, isNonD, flatD, sEq_T, List.all_cons, List.all_nil, List.any_cons, List.any_nil, Bool.and_true, Bool.true_and, Bool.or_false, Bool.or_true, Bool.true_or, Bool.false_or, Bool.not_true, Bool.not_false, List.length_cons, List.length_nil, Nat.zero_add, Nat.reduceAdd, line_eq, true_and, and_true, String.reduceBEq, Int.reduceBEq, decide_true, decide_false, Int.reduceLT, Int.reduceLE, beq_self_eq_true, Nat.reduceLeDiff]
    rw [rx ho.2.1]; try simp only [wp_ok, wp_bad, wp_bind, wS_ok, wS_bad, wS_cons, wS_nil, wS_pass, wS_break, wS_cont, wS_never, wS_set, wS_expr, wS_ret, wS_retN, wS_if, wS_asg, wS_aug, wS_for, wp_lc, wp_m1, wp_m2, wp_mN, wp_aNil, wp_aCons, wp_mC, wp_var, wp_if, wp_and, wp_or, wp_not, wp_chain, wp_mt, wp_get, wp_isi, wp_fld, wp_sl, wp_oNone, wp_oSome, wp_tBool, wp_tTru, wp_tNot, wp_tAnd, wp_tOr, wp_tAll, wp_gSlot, wp_gsNil, wp_gsCons, wp_gTup, wp_gSub, wp_iAny, wp_iSeq, wp_iTup, wp_iStr, wp_iRange1, wp_iRange2, wp_iZip, wS_fld, wp_make, seqQ, rtQ, turnQ, List.getElem?_cons_zero, List.getElem?_cons_succ, List.set_cons_zero, List.set_cons_succ, wipeD, if_true, if_false, Bool.false_eq_true, Bool.true_eq_false, reduceIte, w_add, w_iadd, w_iaddS, w_addS, w_addL, w_addT, w_sub, w_mul, w_mod, w_fdiv, w_pow, w_neg, w_lt, w_le, w_gt, w_ge, w_eqI, w_neI, w_eqT, w_neT, w_isN, w_isnotN, w_isB, w_isNB, w_len, w_lenT, w_int, w_intB, w_abs, w_min, w_max, w_tup, w_lst, w_new, w_list, w_listN, w_ix, w_ixT, w_ixD, w_inT1, w_notinT1, w_inT2, w_notinT2, w_inT3, w_notinT3, w_inT4, w_notinT4, w_inT5, w_notinT5, w_inT6, w_notinT6, w_inT7, w_notinT7, w_inT8, w_notinT8, w_sl1, at_0, at_1, at_2, at_3, at_4, at_5, hasTy_list, hasTy_str, isNonD, flatD, sEq_T, List.all_cons, List.all_nil, List.any_cons, List.any_nil, Bool.and_true, Bool.true_and, Bool.or_false, Bool.or_true, Bool.true_or, Bool.false_or, Bool.not_true, Bool.not_false, List.length_cons, List.length_nil, Nat.zero_add, Nat.reduceAdd, line_eq, true_and, and_true, String.reduceBEq, Int.reduceBEq, decide_true, decide_false, Int.reduceLT, Int.reduceLE, beq_self_eq_true, Nat.reduceLeDiff]
    simp only [Ord.to] at k
    split
    · rename_i hg
      have hg' : get r a ≠ get r b := by simpa using hg
      rw [if_pos hg', ek c ho.2.2.1] at k
      exact k
    · rename_i hg
      have hg' : ¬ get r a ≠ get r b := by simpa using hg
      rw [if_neg hg', e0] at k
      exact k
  | skip c =>
    unfold Ord.d; simp only [wp_ok, wp_bad, wp_bind, wS_ok, wS_bad, wS_cons, wS_nil, wS_pass, wS_break, wS_cont, wS_never, wS_set, wS_expr, wS_ret, wS_retN, wS_if, wS_asg, wS_aug, wS_for, wp_lc, wp_m1, wp_m2, wp_mN, wp_aNil, wp_aCons, wp_mC, wp_var, wp_if, wp_and, wp_or, wp_not, wp_chain, wp_mt, wp_get, wp_isi, wp_fld, wp_sl, wp_oNone, wp_oSome, wp_tBool, wp_tTru, wp_tNot, wp_tAnd, wp_tOr, wp_tAll, wp_gSlot, wp_gsNil, wp_gsCons, wp_gTup, wp_gSub, wp_iAny, wp_iSeq, wp_iTup, wp_iStr, wp_iRange1, wp_iRange2, wp_iZip, wS_fld, wp_make, seqQ, rtQ, turnQ, List.getElem?_cons_zero, List.getElem?_cons_succ, List.set_cons_zero, List.set_cons_succ, wipeD, if_true, if_false, Bool.false_eq_true, Bool.true_eq_false, reduceIte, w_add, w_iadd, w_iaddS, w_addS, w_addL, w_addT, w_sub, w_mul, w_mod, w_fdiv, w_pow, w_neg, w_lt, w_le, w_gt, w_ge, w_eqI, w_neI, w_eqT, w_neT, w_isN, w_isnotN, w_isB, w_isNB, w_len, w_lenT, w_int, w_intB, w_abs, w_min, w_max, w_tup, w_lst, w_new, w_list, w_listN, w_ix, w_ixT, w_ixD, w_inT1, w_notinT1, w_inT2, w_notinT2, w_inT3, w_notinT3, w_inT4, w_notinT4, w_inT5, w_notinT5, w_inT6, w_notinT6, w_inT7, w_notinT7, w_inT8, w_notinT8, w_sl1, at_0, at_1, at_2, at_3, at_4, at_5, hasTy_list, hasTy_str, isNonD, flatD, sEq_T, List.all_cons, List.all_nil, List.any_cons, List.any_nil, Bool.and_true, Bool.true_and, Bool.or_false, Bool.or_true, Bool.true_or, Bool.false_or, Bool.not_true, Bool.not_false, List.length_cons, List.length_nil, Nat.zero_add, Nat.reduceAdd, line_eq, true_and, and_true, String.reduceBEq, Int.reduceBEq, decide_true, decide_false, Int.reduceLT, Int.reduceLE, beq_self_eq_true, Nat.reduceLeDiff]
    simp only [Ord.to] at k
    rw [ek c ho.1] at k
    exact k
  | answer a => cases hon
  | lose => cases hon
  | _ =>
    unfold Ord.d; simp only [wp_ok, wp_bad, wp_bind, wS_ok, wS_bad, wS_cons, wS_nil, wS_pass, wS_break, wS_cont, wS_never, wS_set, wS_expr, wS_ret, wS_retN, wS_if, wS_asg, wS_aug, wS_for, wp_lc, wp_m1, wp_m2, wp_mN, wp_aNil, wp_aCons, wp_mC, wp_var, wp_if, wp_and, wp_or, wp_not, wp_chain, wp_mt, wp_get, wp_isi, wp_fld, wp_sl, wp_oNone, wp_oSome, wp_tBool, wp_tTru, wp_tNot, wp_tAnd, wp_tOr, wp_tAll, wp_gSlot, wp_gsNil, wp_gsCons, wp_gTup, wp_gSub, wp_iAny, wp_iSeq, wp_iTup, wp_iStr, wp_iRange1, wp_iRange2, wp_iZip, wS_fld, wp_make, seqQ, rtQ, turnQ, List.getElem?_cons_zero, List.getElem?_cons_succ, List.set_cons_zero, List.set_cons_succ, wipeD, if_true, if_false, Bool.false_eq_true, Bool.true_eq_false, reduceIte, w_add, w_iadd, w_iaddS, w_addS, w_addL, w_addT, w_sub, w_mul, w_mod, w_fdiv, w_pow, w_neg, w_lt, w_le, w_gt, w_ge, w_eqI, w_neI, w_eqT, w_neT, w_isN, w_isnotN, w_isB, w_isNB, w_len, w_lenT, w_int, w_intB, w_abs, w_min, w_max, w_tup, w_lst, w_new, w_list, w_listN, w_ix, w_ixT, w_ixD, w_inT1, w_notinT1, w_inT2, w_notinT2, w_inT3, w_notinT3, w_inT4, w_notinT4, w_inT5, w_notinT5, w_inT6, w_notinT6, w_inT7, w_notinT7, w_inT8, w_notinT8, w_sl1, at_0, at_1, at_2, at_3, at_4, at_5, hasTy_list, hasTy_str, isNonD, flatD, sEq_T, List.all_cons, List.all_nil, List.any_cons, List.any_nil, Bool.and_true, Bool.true_and, Bool.or_false, Bool.or_true, Bool.true_or, Bool.false_or, Bool.not_true, Bool.not_false, List.length_cons, List.length_nil, Nat.zero_add, Nat.reduceAdd, line_eq, true_and, and_true, String.reduceBEq, Int.reduceBEq, decide_true, decide_false, Int.reduceLT, Int.reduceLE, beq_self_eq_true, Nat.reduceLeDiff]
    simp only [Ord.to] at k
    rw [e0] at k
    exact k
end

/-! ### the two ways to execute -/
theorem frz_ints {s : S} {n k : Nat} : ∀ xs : List Int, allD (frzD s n (k + 1)) (xs.map .int) = some (xs.map .int)
  | [] => rfl
  | x :: xs => by
    show (match frzD s n (k + 1) (.int x), allD (frzD s n (k + 1)) (xs.map .int) with | some y, some ys => some (y :: ys) | _, _ => none) = _
    rw [frz_ints xs]
    rfl
theorem frz_opt {s : S} {n k : Nat} (o : Option Int) : frzD s n (k + 1) (opt o) = some (opt o) := by cases o <;> rfl
/-- what lies below is not touched by a finishing -/
def Low (A B : O) : Prop := ltO 2 A = true ∧ ltO 2 B = true
theorem low_ok {A B : O} (h : Low A B) (r : List O) : stOk 2 (A :: B :: r) = true := by
  unfold stOk
  simp [h.1, h.2]
theorem exec_end {os : List Ord} {n : Int} {at_ : Nat} {r p : List Int} (h : os.length ≤ at_) : ∀ f, exec os n f at_ r p = (none, p)
  | 0 => rfl
  | f + 1 => by
    unfold exec
    rw [List.getElem?_eq_none h]
theorem exec_on {os : List Ord} {n : Int} {at_ f : Nat} {r p : List Int} {o : Ord} (h : os[at_]? = some o) (ho : o.on = true) : exec os n (f + 1) at_ r p = exec os n f (o.to at_ r) (o.set n r) (p ++ [(at_ : Int)]) := by
  rw [exec, h]
  cases o <;> first
    | rfl
    | cases ho
theorem exec_fuel {os : List Ord} {n : Int} : ∀ (f g at_ : Nat) (r p : List Int), os.length ≤ at_ + f → os.length ≤ at_ + g → exec os n f at_ r p = exec os n g at_ r p
  | 0, g, at_, r, p, h, _ => by rw [exec_end (by omega), exec_end (by omega)]
  | f + 1, 0, at_, r, p, _, h => by rw [exec_end (by omega), exec_end (by omega)]
  | f + 1, g + 1, at_, r, p, h1, h2 => by
    cases ho : os[at_]? with
    | none => rw [exec, exec, ho]
    | some o =>
      cases hon : o.on with
      | true =>
        have gt := to_gt at_ r o
        rw [exec_on ho hon, exec_on ho hon]
        exact exec_fuel f g _ _ _ (by omega) (by omega)
      | false =>
        rw [exec, exec, ho]
        cases o <;> first
          | rfl
          | cases hon
theorem ord_ix {os : List Ord} {at_ : Nat} {o : Ord} (h : os[at_]? = some o) : atI (os.map Ord.d) (at_ : Int) = some o.d := by
  rw [atI_nat rfl, List.getElem?_map, h]
  rfl
section
variable {A B : O} {os : List Ord} {n : Int} {Q : D → S → Prop}
theorem start_bd (hn : n.natAbs ≤ 10 ^ 30) : Bd 0 [n, 0, 0, 0, 0, 0, 0, 0] := by
  refine ⟨rfl, fun x hx => ?_⟩
  simp only [List.mem_cons, List.not_mem_nil, or_false] at hx
  rcases hx with rfl | rfl | rfl | rfl | rfl | rfl | rfl | rfl <;> first
    | exact hn
    | exact Nat.zero_le _
def rec_ (os : List Ord) : D := .ins "NumberRecipe" [("orders", .lst (os.map Ord.d))]
def exec_c : MT := tBool (m2 dLt (mVar 4) (mN dLen (aCons (mFld "orders" ["NumberRecipe"] (mVar 0)) aNil)))
def exec_b : MS := (ssCons (sSet 5 (m2 dIx (mFld "orders" ["NumberRecipe"] (mVar 0)) (mVar 4)))
  (ssCons (sExpr (mMt "list" dAppend (mVar 3) (aCons (mVar 4) aNil)))
  (ssCons (sIf (tBool (m2 dEq (m2 dIx (mVar 5) (mC (.int 0))) (mC (.str "answer"))))
  (sRet (mN dTup (aCons (m2 dIx (mVar 2) (m2 dIx (mVar 5) (mC (.int 1)))) (aCons (mVar 3) aNil))))
  ssNil)
  (ssCons (sIf (tBool (m2 dEq (m2 dIx (mVar 5) (mC (.int 0))) (mC (.str "lose"))))
  (sRet (mN dTup (aCons (mC .non) (aCons (mVar 3) aNil))))
  ssNil)
  (ssCons (sExpr (mN f_calculate (aCons (mVar 5) (aCons (mVar 2) (aCons (mVar 1) aNil)))))
  (sAug 4 dIAdd (m2 dAdd (mC (.int 1)) (mN f_skipped (aCons (mVar 5) (aCons (mVar 2) aNil))))))))))
theorem hfld {s : S} {Q : D → S → Prop} {v1 v2 v3 v4 v5 : Option D} : wp (mFld "orders" ["NumberRecipe"] (mVar 0) [some (rec_ os), v1, v2, v3, v4, v5] s) Q = Q (.lst (os.map Ord.d)) s := by
  rw [wp_fld, wp_var]
  simp only [List.getElem?_cons_zero, rec_, insOf, List.mem_singleton, true_and]
  rfl
def Ord.word : Ord → String
  | .put _ _ => "put"
  | .copy _ _ => "copy"
  | .add _ _ _ => "add"
  | .times _ _ _ => "times"
  | .over _ _ => "over"
  | .rest _ _ => "rest"
  | .less _ _ _ => "less"
  | .same _ _ _ => "same"
  | .skip _ => "skip"
  | .answer _ => "answer"
  | .lose => "lose"
theorem d_w (o : Ord) : ∃ tl, o.d = .tup (.str (Str.ofString o.word) :: tl) := by cases o <;> exact ⟨_, rfl⟩
theorem d_0 {o : Ord} (h : o.on = true) : ∃ r, o.d = .tup (.str (Str.ofString o.word) :: r) ∧ (o.word == "answer") = false ∧ (o.word == "lose") = false := by
  cases o with
  | answer a => exact nomatch (show false = true from h)
  | lose => exact nomatch (show false = true from h)
  | _ => exact ⟨_, rfl, by simp [Ord.word], by simp [Ord.word]⟩
theorem fzQ_pair {i : Option Int} {r p : List Int} (hlow : Low A B) (k : Q (.tup [opt i, .lst (p.map .int)]) [A, B]) : fzQ 2 Q (.tup [opt i, .ref 3]) [A, B, .lst (r.map .int), .lst (p.map .int)] := by
  refine ⟨.tup [opt i, .lst (p.map .int)], ?_, low_ok hlow _, k⟩
  have e1 : frzD [A, B, .lst (r.map .int), .lst (p.map .int)] 2 19 (opt i) = some (opt i) := frz_opt i
  have e2 : frzD [A, B, .lst (r.map .int), .lst (p.map .int)] 2 19 (.ref 3) = some (.lst (p.map .int)) := by
    show (allD (frzD _ 2 18) (p.map .int)).map D.lst = _
    rw [frz_ints (k := 17) p]
    rfl
  show (allD (frzD _ 2 19) [opt i, .ref 3]).map D.tup = _
  simp only [allD, e1, e2]
  rfl
theorem exec_loop (hg : Good os) (hn : n.natAbs ≤ 10 ^ 30) (hlow : Low A B) : ∀ (f at_ : Nat) (r p : List Int) (v5 : Option D), os.length ≤ at_ + f → Bd at_ r → p.length ≤ at_ →
    Q (.tup [opt (exec os n f at_ r p).1, .lst ((exec os n f at_ r p).2.map .int)]) [A, B] →
    wS (sWhile exec_c exec_b [some (rec_ os), some (.int n), some (.ref 2), some (.ref 3), some (.int at_), v5] [A, B, .lst (r.map .int), .lst (p.map .int)]) (seqQ (sRet (mN dTup (aCons (mC .non) (aCons (mVar 3) aNil)))) (rtQ (fzQ 2 Q)))
  | f, at_, r, p, v5, hl, hb, hp, k => by
    have hlen : (os.map Ord.d).length = os.length := List.length_map _
    rw [wS_while]
    unfold exec_c
    rw [wp_tBool, wp_m2, wp_var]
    simp only [List.getElem?_cons_zero, List.getElem?_cons_succ]
    rw [wp_mN, wp_aCons, hfld]
    simp only [wp_ok, wp_bad, wp_bind, wS_ok, wS_bad, wS_cons, wS_nil, wS_pass, wS_break, wS_cont, wS_never, wS_set, wS_expr, wS_ret, wS_retN, wS_if, wS_asg, wS_aug, wS_for, wp_lc, wp_m1, wp_m2, wp_mN, wp_aNil, wp_aCons, wp_mC, wp_var, wp_if, wp_and, wp_or, wp_not, wp_chain, wp_mt, wp_get, wp_isi, wp_fld, wp_sl, wp_oNone, wp_oSome, wp_tBool, wp_tTru, wp_tNot, wp_tAnd, wp_tOr, wp_tAll, wp_gSlot, wp_gsNil, wp_gsCons, wp_gTup, wp_gSub, wp_iAny, wp_iSeq, wp_iTup, wp_iStr, wp_iRange1, wp_iRange2, wp_iZip, wS_fld, wp_make, seqQ, rtQ, turnQ, List.getElem?_cons_zero, List.getElem?_cons_succ, List.set_cons_zero, List.set_cons_succ, wipeD, if_true, if_false, Bool.false_eq_true, Bool.true_eq_false, reduceIte, w_add, w_iadd, w_iaddS, w_addS, w_addL, w_addT, w_sub, w_mul, w_mod, w_fdiv, w_pow, w_neg, w_lt, w_le, w_gt, w_ge, w_eqI, w_neI, w_eqT, w_neT, w_isN, w_isnotN, w_isB, w_isNB, w_len, w_lenT, w_int, w_intB, w_abs, w_min, w_max, w_tup, w_lst, w_new, w_list, w_listN, w_ix, w_ixT, w_ixD, w_inT1, w_notinT1, w_inT2, w_notinT2, w_inT3, w_notinT3, w_inT4, w_notinT4, w_inT5, w_notinT5, w_inT6, w_notinT6, w_inT7, w_notinT7, w_inT8, w_notinT8, w_sl1, at_0, at_1, at_2, at_3, at_4, at_5, hasTy_list, hasTy_str, isNonD, flatD, sEq_T, List.all_cons, List.all_nil, List.any_cons, List.any_nil, Bool.and_true, Bool.true_and, Bool.or_false, Bool.or_true, Bool.true_or, Bool.false_or, Bool.not_true, Bool.not_false, List.length_cons, List.length_nil, Nat.zero_add, Nat.reduceAdd, line_eq, true_and, and_true, String.reduceBEq, Int.reduceBEq, decide_true, decide_false, Int.reduceLT, Int.reduceLE, beq_self_eq_true, Nat.reduceLeDiff]
    rw [hlen]
    by_cases hlt : at_ < os.length
    · rw [if_pos (decide_eq_true (by omega))]
      obtain ⟨f, rfl⟩ : ∃ f', f = f' + 1 := ⟨f - 1, by omega⟩
      have ho : os[at_]? = some os[at_] := List.getElem?_eq_getElem hlt
      generalize os[at_] = o at ho
      have hok := hg.2 at_ o ho
      have h33 := hg.1
      unfold exec_b
      rw [wS_cons, wS_set, wp_m2, hfld, wp_var]
      simp only [List.getElem?_cons_zero, List.getElem?_cons_succ, w_ix, ord_ix ho, List.set_cons_succ, List.set_cons_zero, seqQ]
      rw [wS_cons, wS_expr, wp_mt]
      simp only [wp_var, List.getElem?_cons_zero, List.getElem?_cons_succ]
      refine ⟨hasTy_ref (xs := p.map .int) rfl, ?_⟩
      simp only [wp_aCons, wp_aNil, wp_var, List.getElem?_cons_zero, List.getElem?_cons_succ]
      rw [w_append (xs := p.map .int) rfl]
      refine ⟨Nat.lt_of_le_of_lt (show (p.map D.int).length ≤ 33 by rw [List.length_map]; omega) (by decide), ?_⟩
      have ep : p.map D.int ++ [D.int at_] = (p ++ [(at_ : Int)]).map D.int := by simp
      simp only [List.set_cons_succ, List.set_cons_zero, ep, seqQ]
      by_cases hon : o.on = true
      · obtain ⟨tl, ed, ea, el⟩ := d_0 hon
        have d0 : ∀ {s : S} {Q : D → S → Prop}, wp (dIx o.d (.int 0) s) Q = Q (.str (Str.ofString o.word)) s := by
          intro s Q
          rw [ed, w_ixT, at_0]
        rw [exec_on ho hon] at k
        have go := exec_loop hg hn hlow f (o.to at_ r) (o.set n r) (p ++ [(at_ : Int)]) (some o.d) (by have := to_gt at_ r o; omega) (hb.set hn hok) (by have := to_gt at_ r o; simp; omega) k
        simp only [wS_cons, wS_if, wp_tBool, wp_m2, wp_var, List.getElem?_cons_zero, List.getElem?_cons_succ, wp_mC, d0, w_eqT, ea, el, Bool.false_eq_true, if_false, wS_nil, seqQ, wS_expr, wp_mN, wp_aCons, wp_aNil, wS_aug]
        refine calc_wp hb (by omega) hok hon ?_
        refine skip_wp (at_ := at_) (hb.set hn hok) hok hon ?_
        have e1 : o.to at_ (o.set n r) = o.to at_ r := by cases o <;> rfl
        rw [e1, w_add, w_iadd]
        have e2 : (at_ : Int) + (1 + (((o.to at_ r : Nat) : Int) - at_ - 1)) = ((o.to at_ r : Nat) : Int) := by omega
        rw [e2]
        exact go
      · cases o <;> first
          | exact absurd rfl hon
          | skip
        · rename_i a
          rw [exec, ho] at k
          unfold Ord.d
          simp only [wp_ok, wp_bad, wp_bind, wS_ok, wS_bad, wS_cons, wS_nil, wS_pass, wS_break, wS_cont, wS_never, wS_set, wS_expr, wS_ret, wS_retN, wS_if, wS_asg, wS_aug, wS_for, wp_lc, wp_m1, wp_m2, wp_mN, wp_aNil, wp_aCons, wp_mC, wp_var, wp_if, wp_and, wp_or, wp_not, wp_chain, wp_mt, wp_get, wp_isi, wp_fld, wp_sl, wp_oNone, wp_oSome, wp_tBool, wp_tTru, wp_tNot, wp_tAnd, wp_tOr, wp_tAll, wp_gSlot, wp_gsNil, wp_gsCons, wp_gTup, wp_gSub, wp_iAny, wp_iSeq, wp_iTup, wp_iStr, wp_iRange1, wp_iRange2, wp_iZip, wS_fld, wp_make, seqQ, rtQ, turnQ, List.getElem?_cons_zero, List.getElem?_cons_succ, List.set_cons_zero, List.set_cons_succ, wipeD, if_true, if_false, Bool.false_eq_true, Bool.true_eq_false, reduceIte, w_add, w_iadd, w_iaddS, w_addS, w_addL, w_addT, w_sub, w_mul, w_mod, w_fdiv, w_pow, w_neg, w_lt, w_le, w_gt, w_ge, w_eqI, w_neI, w_eqT, w_neT, w_isN, w_isnotN, w_isB, w_isNB, w_len, w_lenT, w_int, w_intB, w_abs, w_min, w_max, w_tup, w_lst, w_new, w_list, w_listN, w_ix, w_ixT, w_ixD, w_inT1, w_notinT1, w_inT2, w_notinT2, w_inT3, w_notinT3, w_inT4, w_notinT4, w_inT5, w_notinT5, w_inT6, w_notinT6, w_inT7, w_notinT7, w_inT8, w_notinT8, w_sl1, at_0, at_1, at_2, at_3, at_4, at_5, hasTy_list, hasTy_str, isNonD, flatD, sEq_T, List.all_cons, List.all_nil, List.any_cons, List.any_nil, Bool.and_true, Bool.true_and, Bool.or_false, Bool.or_true, Bool.true_or, Bool.false_or, Bool.not_true, Bool.not_false, List.length_cons, List.length_nil, Nat.zero_add, Nat.reduceAdd, line_eq, true_and, and_true, String.reduceBEq, Int.reduceBEq, decide_true, decide_false, Int.reduceLT, Int.reduceLE, beq_self_eq_true, Nat.reduceLeDiff]
          rw [reg_ix (r := r) rfl hb hok]
          exact fzQ_pair (i := some (get r a)) hlow k
        · rw [exec, ho] at k
          unfold Ord.d
          simp only [wp_ok, wp_bad, wp_bind, wS_ok, wS_bad, wS_cons, wS_nil, wS_pass, wS_break, wS_cont, wS_never, wS_set, wS_expr, wS_ret, wS_retN, wS_if, wS_asg, wS_aug, wS_for, wp_lc, wp_m1, wp_m2, wp_mN, wp_aNil, wp_aCons, wp_mC, wp_var, wp_if, wp_and, wp_or, wp_not, wp_chain, wp_mt, wp_get, wp_isi, wp_fld, wp_sl, wp_oNone, wp_oSome, wp_tBool, wp_tTru, wp_tNot, wp_tAnd, wp_tOr, wp_tAll, wp_gSlot, wp_gsNil, wp_gsCons, wp_gTup, wp_gSub, wp_iAny, wp_iSeq, wp_iTup, wp_iStr, wp_iRange1, wp_iRange2, wp_iZip, wS_fld, wp_make, seqQ, rtQ, turnQ, List.getElem?_cons_zero, List.getElem?_cons_succ, List.set_cons_zero, List.set_cons_succ, wipeD, if_true, if_false, Bool.false_eq_true, Bool.true_eq_false, reduceIte, w_add, w_iadd, w_iaddS, w_addS, w_addL, w_addT, w_sub, w_mul, w_mod, w_fdiv, w_pow, w_neg, w_lt, w_le, w_gt, w_ge, w_eqI, w_neI, w_eqT, w_neT, w_isN, w_isnotN, w_isB, w_isNB, w_len, w_lenT, w_int, w_intB, w_abs, w_min, w_max, w_tup, w_lst, w_new, w_list, w_listN, w_ix, w_ixT, w_ixD, w_inT1, w_notinT1, w_inT2, w_notinT2, w_inT3, w_notinT3, w_inT4, w_notinT4, w_inT5, w_notinT5, w_inT6, w_notinT6, w_inT7, w_notinT7, w_inT8, w_notinT8, w_sl1, at_0, at_1, at_2, at_3, at_4, at_5, hasTy_list, hasTy_str, isNonD, flatD, sEq_T, List.all_cons, List.all_nil, List.any_cons, List.any_nil, Bool.and_true, Bool.true_and, Bool.or_false, Bool.or_true, Bool.true_or, Bool.false_or, Bool.not_true, Bool.not_false, List.length_cons, List.length_nil, Nat.zero_add, Nat.reduceAdd, line_eq, true_and, and_true, String.reduceBEq, Int.reduceBEq, decide_true, decide_false, Int.reduceLT, Int.reduceLE, beq_self_eq_true, Nat.reduceLeDiff]
          exact fzQ_pair (i := none) hlow k
    · rw [if_neg (by simp; omega)]
      rw [exec_end (by omega)] at k
      exact fzQ_pair (i := none) hlow k
theorem execute_wp (hg : Good os) (hn : n.natAbs ≤ 10 ^ 30) (hlow : Low A B) (k : Q (.tup [opt (exec os n os.length 0 [n, 0, 0, 0, 0, 0, 0, 0] []).1, .lst ((exec os n os.length 0 [n, 0, 0, 0, 0, 0, 0, 0] []).2.map .int)]) [A, B]) :
    wp (f_execute [rec_ os, .int n] [A, B]) Q := by
  refine wp_mkFz ((wp_fn (n := 2) (tot := 6) (m := m_execute) rfl).mpr ?_)
  show wS (m_execute [some (rec_ os), some (.int n), none, none, none, none] _) _
  have hrep : wp (mRep (aCons (mC (.int 0)) aNil) c_REGISTERS true [some (rec_ os), some (.int n), none, none, none, none] [A, B]) = fun Q => Q (.ref 2) [A, B, .lst [.int 0, .int 0, .int 0, .int 0, .int 0, .int 0, .int 0, .int 0]] := by
    funext Q
    exact wp_ok (a := D.ref 2) (s := [A, B, .lst [.int 0, .int 0, .int 0, .int 0, .int 0, .int 0, .int 0, .int 0]])
  have hst : dStore (.ref 2) (.int 0) (.int n) [A, B, .lst [.int 0, .int 0, .int 0, .int 0, .int 0, .int 0, .int 0, .int 0]] = some [A, B, .lst ([n, 0, 0, 0, 0, 0, 0, 0].map .int)] := rfl
  unfold m_execute
  rw [wS_cons, wS_set, hrep]
  simp only [seqQ, List.set_cons_succ, List.set_cons_zero, wS_cons, wS_asg, wp_var, List.getElem?_cons_zero, List.getElem?_cons_succ, wp_gSub, wp_mC, hst, wS_set, wp_mN, wp_aNil, w_new]
  refine ⟨by decide, ?_⟩
  exact exec_loop hg hn hlow os.length 0 [n, 0, 0, 0, 0, 0, 0, 0] [] none (by omega) (start_bd hn) (by simp) k
/-! the law's own way -/
def run_b : MS := (ssCons (sIf (tBool (m2 dGe (mVar 5) (mN dLen (aCons (mVar 0) aNil))))
  (sRet (mN dTup (aCons (mC .non) (aCons (mVar 3) (aCons (mVar 4) aNil)))))
  ssNil)
  (ssCons (sSet 7 (m2 dIx (mVar 0) (mVar 5)))
  (ssCons (sSet 8 (m2 dIx (mVar 7) (mC (.int 0))))
  (ssCons (sExpr (mMt "list" dAppend (mVar 3) (aCons (mVar 5) aNil)))
  (ssCons (sSet 5 (m2 dAdd (mVar 5) (mC (.int 1))))
  (ssCons (sIf (tBool (m2 dEq (mVar 8) (mC (.str "answer"))))
  (sRet (mN dTup (aCons (m2 dIx (mVar 2) (m2 dIx (mVar 7) (mC (.int 1)))) (aCons (mVar 3) (aCons (mVar 4) aNil)))))
  ssNil)
  (ssCons (sIf (tBool (m2 dEq (mVar 8) (mC (.str "lose"))))
  (sRet (mN dTup (aCons (mC .non) (aCons (mVar 3) (aCons (mVar 4) aNil)))))
  ssNil)
  (sIf (tBool (m2 dEq (mVar 8) (mC (.str "put"))))
  (sAsg (m2 dIx (mVar 7) (mC (.int 2))) (gSubD (mVar 2) (m2 dIx (mVar 7) (mC (.int 1)))))
  (sIf (tBool (m2 dEq (mVar 8) (mC (.str "copy"))))
  (sAsg (m2 dIx (mVar 2) (m2 dIx (mVar 7) (mC (.int 2)))) (gSubD (mVar 2) (m2 dIx (mVar 7) (mC (.int 1)))))
  (sIf (tBool (m2 dEq (mVar 8) (mC (.str "add"))))
  (sAsg (m2 dAdd (m2 dIx (mVar 2) (m2 dIx (mVar 7) (mC (.int 2)))) (m2 dIx (mVar 2) (m2 dIx (mVar 7) (mC (.int 3))))) (gSubD (mVar 2) (m2 dIx (mVar 7) (mC (.int 1)))))
  (sIf (tBool (m2 dEq (mVar 8) (mC (.str "times"))))
  (sAsg (m2 dMul (m2 dIx (mVar 2) (m2 dIx (mVar 7) (mC (.int 2)))) (m2 dIx (mVar 7) (mC (.int 3)))) (gSubD (mVar 2) (m2 dIx (mVar 7) (mC (.int 1)))))
  (sIf (tBool (m2 dEq (mVar 8) (mC (.str "over"))))
  (sAsg (m2 dFdiv (m2 dSub (mVar 1) (m2 dMod (mN dInt (aCons (mVar 1) aNil)) (m2 dIx (mVar 7) (mC (.int 2))))) (m2 dIx (mVar 7) (mC (.int 2)))) (gSubD (mVar 2) (m2 dIx (mVar 7) (mC (.int 1)))))
  (sIf (tBool (m2 dEq (mVar 8) (mC (.str "rest"))))
  (sAsg (m2 dMod (mN dInt (aCons (mVar 1) aNil)) (m2 dIx (mVar 7) (mC (.int 2)))) (gSubD (mVar 2) (m2 dIx (mVar 7) (mC (.int 1)))))
  (sIf (tBool (m2 dEq (mVar 8) (mC (.str "skip"))))
  (sSet 5 (m2 dAdd (mVar 5) (m2 dIx (mVar 7) (mC (.int 1)))))
  (ssCons (sSet 9 (m2 dSub (m2 dIx (mVar 2) (m2 dIx (mVar 7) (mC (.int 1)))) (m2 dIx (mVar 2) (m2 dIx (mVar 7) (mC (.int 2))))))
  (ssCons (sExpr (mMt "list" dAppend (mVar 4) (aCons (mN dTup (aCons (m2 dSub (mVar 5) (mC (.int 1))) (aCons (mVar 9) aNil))) aNil)))
  (sIf (tOr2 (tAnd2 (tBool (m2 dNe (mVar 9) (mC (.int 0)))) (tOr2 (tBool (m2 dEq (mVar 8) (mC (.str "same")))) (tBool (m2 dGt (mVar 9) (mC (.int 0)))))) (tAnd2 (tBool (m2 dEq (mVar 9) (mC (.int 0)))) (tBool (m2 dEq (mVar 8) (mC (.str "less"))))))
  (sSet 5 (m2 dAdd (mVar 5) (m2 dIx (mVar 7) (mC (.int 3)))))
  ssNil)))))))))))))))))
/-- the notes of tests: pairs of numbers -/
def notes (ts : List (Int × Int)) : List D := ts.map fun p => .tup [.int p.1, .int p.2]
theorem frz_notes {s : S} {n k : Nat} : ∀ ts : List (Int × Int), allD (frzD s n (k + 2)) (notes ts) = some (notes ts)
  | [] => rfl
  | x :: ts => by
    show (match frzD s n (k + 2) (.tup [.int x.1, .int x.2]), allD (frzD s n (k + 2)) (notes ts) with | some y, some ys => some (y :: ys) | _, _ => none) = _
    rw [frz_notes ts]
    rfl
theorem fzQ_three {i : Option Int} {r p : List Int} {ts : List (Int × Int)} (hlow : Low A B) (k : Q (.tup [opt i, .lst (p.map .int), .lst (notes ts)]) [A, B]) : fzQ 2 Q (.tup [opt i, .ref 3, .ref 4]) [A, B, .lst (r.map .int), .lst (p.map .int), .lst (notes ts)] := by
  refine ⟨.tup [opt i, .lst (p.map .int), .lst (notes ts)], ?_, low_ok hlow _, k⟩
  have e1 : frzD [A, B, .lst (r.map .int), .lst (p.map .int), .lst (notes ts)] 2 19 (opt i) = some (opt i) := frz_opt i
  have e2 : frzD [A, B, .lst (r.map .int), .lst (p.map .int), .lst (notes ts)] 2 19 (.ref 3) = some (.lst (p.map .int)) := by
    show (allD (frzD _ 2 18) (p.map .int)).map D.lst = _
    rw [frz_ints (k := 17) p]
    rfl
  have e3 : frzD [A, B, .lst (r.map .int), .lst (p.map .int), .lst (notes ts)] 2 19 (.ref 4) = some (.lst (notes ts)) := by
    show (allD (frzD _ 2 18) (notes ts)).map D.lst = _
    rw [frz_notes (k := 16) ts]
    rfl
  show (allD (frzD _ 2 19) [opt i, .ref 3, .ref 4]).map D.tup = _
  simp only [allD, e1, e2, e3]
  rfl
theorem run_turn {f at_ : Nat} {r p : List Int} {ts : List (Int × Int)} {o : Ord} {v6 v7 v8 v9 : Option D} {b : Int} {K : Rho → S → Prop} {Q' : C → S → Prop} (h33 : os.length ≤ 33) (hn : n.natAbs ≤ 10 ^ 30) (ho : os[at_]? = some o) (hok : o.ok b) (hb : Bd at_ r) (hp : p.length ≤ at_) (ht : ts.length ≤ at_)
    (hon : o.on = true) (k : ∀ ts' v6 v7 v8 v9, ts'.length ≤ at_ + 1 → K [some (.lst (os.map Ord.d)), some (.int n), some (.ref 2), some (.ref 3), some (.ref 4), some (.int (o.to at_ r : Nat)), v6, v7, v8, v9] [A, B, .lst ((o.set n r).map .int), .lst ((p ++ [(at_ : Int)]).map .int), .lst (notes ts')]) :
    wS (run_b [some (.lst (os.map Ord.d)), some (.int n), some (.ref 2), some (.ref 3), some (.ref 4), some (.int at_), v6, v7, v8, v9] [A, B, .lst (r.map .int), .lst (p.map .int), .lst (notes ts)]) (turnQ K Q') := by
  have hlt : at_ < os.length := (List.getElem?_eq_some_iff.mp ho).1
  have hlen : (os.map Ord.d).length = os.length := List.length_map _
  have rx : ∀ {p' : List D} {a : Int} {Q : D → S → Prop}, rg a → wp (dIx (.ref 2) (.int a) [A, B, .lst (r.map .int), .lst p', .lst (notes ts)]) Q = Q (.int (get r a)) [A, B, .lst (r.map .int), .lst p', .lst (notes ts)] := fun ha => reg_ix rfl hb ha
  have rs : ∀ {p' : List D} {a v : Int}, rg a → dStore (.ref 2) (.int a) (.int v) [A, B, .lst (r.map .int), .lst p', .lst (notes ts)] = some [A, B, .lst ((r.set a.toNat v).map .int), .lst p', .lst (notes ts)] := fun ha => reg_st rfl hb ha
  have hge : decide ((at_ : Int) ≥ (os.length : Nat)) = false := decide_eq_false (by omega)
  have ep : p.map D.int ++ [D.int at_] = (p ++ [(at_ : Int)]).map D.int := by simp
  have hle : p.length < 16777216 := by omega
  have hle2 : ts.length < 16777216 := by omega
  have pre : ∀ {Q' : C → S → Prop} {rest : MS}, (wS (rest [some (.lst (os.map Ord.d)), some (.int n), some (.ref 2), some (.ref 3), some (.ref 4), some (.int (at_ + 1)), v6, some o.d, some (.str (Str.ofString o.word)), v9] [A, B, .lst (r.map .int), .lst ((p ++ [(at_ : Int)]).map .int), .lst (notes ts)]) Q') →
      wS (ssCons (sIf (tBool (m2 dGe (mVar 5) (mN dLen (aCons (mVar 0) aNil))))
      (sRet (mN dTup (aCons (mC .non) (aCons (mVar 3) (aCons (mVar 4) aNil)))))
      ssNil)
      (ssCons (sSet 7 (m2 dIx (mVar 0) (mVar 5)))
      (ssCons (sSet 8 (m2 dIx (mVar 7) (mC (.int 0))))
      (ssCons (sExpr (mMt "list" dAppend (mVar 3) (aCons (mVar 5) aNil)))
      (ssCons (sSet 5 (m2 dAdd (mVar 5) (mC (.int 1))))
      (ssCons (sIf (tBool (m2 dEq (mVar 8) (mC (.str "answer"))))
      (sRet (mN dTup (aCons (m2 dIx (mVar 2) (m2 dIx (mVar 7) (mC (.int 1)))) (aCons (mVar 3) (aCons (mVar 4) aNil)))))
      ssNil)
      (ssCons (sIf (tBool (m2 dEq (mVar 8) (mC (.str "lose"))))
      (sRet (mN dTup (aCons (mC .non) (aCons (mVar 3) (aCons (mVar 4) aNil)))))
      ssNil) rest)))))) [some (.lst (os.map Ord.d)), some (.int n), some (.ref 2), some (.ref 3), some (.ref 4), some (.int at_), v6, v7, v8, v9] [A, B, .lst (r.map .int), .lst (p.map .int), .lst (notes ts)]) Q' := by
    intro Q' rest hrest
    obtain ⟨tl, ed, ea, el⟩ := d_0 hon
    have d0 : ∀ {s : S} {Q : D → S → Prop}, wp (dIx o.d (.int 0) s) Q = Q (.str (Str.ofString o.word)) s := by
      intro s Q
      rw [ed, w_ixT, at_0]
    simp only [wp_ok, wp_bad, wp_bind, wS_ok, wS_bad, wS_cons, wS_nil, wS_pass, wS_break, wS_cont, wS_never, wS_set, wS_expr, wS_ret, wS_retN, wS_if, wS_asg, wS_aug, wS_for, wp_lc, wp_m1, wp_m2, wp_mN, wp_aNil, wp_aCons, wp_mC, wp_var, wp_if, wp_and, wp_or, wp_not, wp_chain, wp_mt, wp_get, wp_isi, wp_fld, wp_sl, wp_oNone, wp_oSome, wp_tBool, wp_tTru, wp_tNot, wp_tAnd, wp_tOr, wp_tAll, wp_gSlot, wp_gsNil, wp_gsCons, wp_gTup, wp_gSub, wp_iAny, wp_iSeq, wp_iTup, wp_iStr, wp_iRange1, wp_iRange2, wp_iZip, wS_fld, wp_make, seqQ, rtQ, turnQ, List.getElem?_cons_zero, List.getElem?_cons_succ, List.set_cons_zero, List.set_cons_succ, wipeD, if_true, if_false, Bool.false_eq_true, Bool.true_eq_false, reduceIte, w_add, w_iadd, w_iaddS, w_addS, w_addL, w_addT, w_sub, w_mul, w_mod, w_fdiv, w_pow, w_neg, w_lt, w_le, w_gt, w_ge, w_eqI, w_neI, w_eqT, w_neT, w_isN, w_isnotN, w_isB, w_isNB, w_len, w_lenT, w_int, w_intB, w_abs, w_min, w_max, w_tup, w_lst, w_new, w_list, w_listN, w_ix, w_ixT, w_ixD, w_inT1, w_notinT1, w_inT2, w_notinT2, w_inT3, w_notinT3, w_inT4, w_notinT4, w_inT5, w_notinT5, w_inT6, w_notinT6, w_inT7, w_notinT7, w_inT8, w_notinT8, w_sl1, at_0, at_1, at_2, at_3, at_4, at_5, hasTy_list, hasTy_str, isNonD, flatD, sEq_T, List.all_cons, List.all_nil, List.any_cons, List.any_nil, Bool.and_true, Bool.true_and, Bool.or_false, Bool.or_true, Bool.true_or, Bool.false_or, Bool.not_true, Bool.not_false, List.length_cons, List.length_nil, Nat.zero_add, Nat.reduceAdd, line_eq, true_and, and_true, String.reduceBEq, Int.reduceBEq, decide_true, decide_false, Int.reduceLT, Int.reduceLE, beq_self_eq_true, Nat.reduceLeDiff]
    rw [hlen, hge]
    simp only [wp_ok, wp_bad, wp_bind, wS_ok, wS_bad, wS_cons, wS_nil, wS_pass, wS_break, wS_cont, wS_never, wS_set, wS_expr, wS_ret, wS_retN, wS_if, wS_asg, wS_aug, wS_for, wp_lc, wp_m1, wp_m2, wp_mN, wp_aNil, wp_aCons, wp_mC, wp_var, wp_if, wp_and, wp_or, wp_not, wp_chain, wp_mt, wp_get, wp_isi, wp_fld, wp_sl, wp_oNone, wp_oSome, wp_tBool, wp_tTru, wp_tNot, wp_tAnd, wp_tOr, wp_tAll, wp_gSlot, wp_gsNil, wp_gsCons, wp_gTup, wp_gSub, wp_iAny, wp_iSeq, wp_iTup, wp_iStr, wp_iRange1, wp_iRange2, wp_iZip, wS_fld, wp_make, seqQ, rtQ, turnQ, List.getElem?_cons_zero, List.getElem?_cons_succ, List.set_cons_zero, List.set_cons_succ, wipeD, if_true, if_false, Bool.false_eq_true, Bool.true_eq_false, reduceIte, w_add, w_iadd, w_iaddS, w_addS, w_addL, w_addT, w_sub, w_mul, w_mod, w_fdiv, w_pow, w_neg, w_lt, w_le, w_gt, w_ge, w_eqI, w_neI, w_eqT, w_neT, w_isN, w_isnotN, w_isB, w_isNB, w_len, w_lenT, w_int, w_intB, w_abs, w_min, w_max, w_tup, w_lst, w_new, w_list, w_listN, w_ix, w_ixT, w_ixD, w_inT1, w_notinT1, w_inT2, w_notinT2, w_inT3, w_notinT3, w_inT4, w_notinT4, w_inT5, w_notinT5, w_inT6, w_notinT6, w_inT7, w_notinT7, w_inT8, w_notinT8, w_sl1, at_0, at_1, at_2, at_3, at_4, at_5, hasTy_list, hasTy_str, isNonD, flatD, sEq_T, List.all_cons, List.all_nil, List.any_cons, List.any_nil, Bool.and_true, Bool.true_and, Bool.or_false, Bool.or_true, Bool.true_or, Bool.false_or, Bool.not_true, Bool.not_false, List.length_cons, List.length_nil, Nat.zero_add, Nat.reduceAdd, line_eq, true_and, and_true, String.reduceBEq, Int.reduceBEq, decide_true, decide_false, Int.reduceLT, Int.reduceLE, beq_self_eq_true, Nat.reduceLeDiff]
    simp only [ord_ix ho, d0, w_eqT, ea, el]
    refine ⟨hasTy_ref (xs := p.map .int) rfl, ?_⟩
    rw [w_append (xs := p.map .int) rfl]
    refine ⟨by rw [List.length_map]; exact hle, ?_⟩
    simp only [List.set_cons_succ, List.set_cons_zero, ep, Bool.false_eq_true, if_false]
    exact hrest
  unfold run_b
  refine pre ?_
  clear pre
  have e1 : ((at_ : Int) + 1) = ((at_ + 1 : Nat) : Int) := by omega
  rw [e1]
  have ek : ∀ c : Int, 0 ≤ c → ((at_ + 1 : Nat) : Int) + c = ((at_ + 1 + c.toNat : Nat) : Int) := fun c hc => by omega
  have fin : ∀ v6 v7 v8 v9, o.to at_ r = at_ + 1 → K [some (.lst (os.map Ord.d)), some (.int n), some (.ref 2), some (.ref 3), some (.ref 4), some (.int (at_ + 1 : Nat)), v6, v7, v8, v9] [A, B, .lst ((o.set n r).map .int), .lst ((p ++ [(at_ : Int)]).map .int), .lst (notes ts)] := fun v6 v7 v8 v9 h => by
    have := k ts v6 v7 v8 v9 (by omega)
    rw [h] at this
    exact this
  cases o with
  | put a v =>
    unfold Ord.d Ord.word; simp only [wp_ok, wp_bad, wp_bind, wS_ok, wS_bad, wS_cons, wS_nil, wS_pass, wS_break, wS_cont, wS_never, wS_set, wS_expr, wS_ret, wS_retN, wS_if, wS_asg, wS_aug, wS_for, wp_lc, wp_m1, wp_m2, wp_mN, wp_aNil, wp_aCons, wp_mC, wp_var, wp_if, wp_and, wp_or, wp_not, wp_chain, wp_mt, wp_get, wp_isi, wp_fld, wp_sl, wp_oNone, wp_oSome, wp_tBool, wp_tTru, wp_tNot, wp_tAnd, wp_tOr, wp_tAll, wp_gSlot, wp_gsNil, wp_gsCons, wp_gTup, wp_gSub, wp_iAny, wp_iSeq, wp_iTup, wp_iStr, wp_iRange1, wp_iRange2, wp_iZip, wS_fld, wp_make, seqQ, rtQ, turnQ, List.getElem?_cons_zero, List.getElem?_cons_succ, List.set_cons_zero, List.set_cons_succ, wipeD, if_true, if_false, Bool.false_eq_true, Bool.true_eq_false, reduceIte, w_add, w_iadd, w_iaddS, w_addS, w_addL, w_addT, w_sub, w_mul, w_mod, w_fdiv, w_pow, w_neg, w_lt, w_le, w_gt, w_ge, w_eqI, w_neI, w_eqT, w_neT, w_isN, w_isnotN, w_isB, w_isNB, w_len, w_lenT, w_int, w_intB, w_abs, w_min, w_max, w_tup, w_lst, w_new, w_list, w_listN, w_ix, w_ixT, w_ixD, w_inT1, w_notinT1, w_inT2, w_notinT2, w_inT3, w_notinT3, w_inT4, w_notinT4, w_inT5, w_notinT5, w_inT6, w_notinT6, w_inT7, w_notinT7, w_inT8, w_notinT8, w_sl1, at_0, at_1, at_2, at_3, at_4, at_5, hasTy_list, hasTy_str, isNonD, flatD, sEq_T, List.all_cons, List.all_nil, List.any_cons, List.any_nil, Bool.and_true, Bool.true_and, Bool.or_false, Bool.or_true, Bool.true_or, Bool.false_or, Bool.not_true, Bool.not_false, List.length_cons, List.length_nil, Nat.zero_add, Nat.reduceAdd, line_eq, true_and, and_true, String.reduceBEq, Int.reduceBEq, decide_true, decide_false, Int.reduceLT, Int.reduceLE, beq_self_eq_true, Nat.reduceLeDiff]
    rw [rs hok.1]; exact fin _ _ _ _ rfl
  | copy a b =>
    unfold Ord.d Ord.word; simp only [wp_ok, wp_bad, wp_bind, wS_ok, wS_bad, wS_cons, wS_nil, wS_pass, wS_break, wS_cont, wS_never, wS_set, wS_expr, wS_ret, wS_retN, wS_if, wS_asg, wS_aug, wS_for, wp_lc, wp_m1, wp_m2, wp_mN, wp_aNil, wp_aCons, wp_mC, wp_var, wp_if, wp_and, wp_or, wp_not, wp_chain, wp_mt, wp_get, wp_isi, wp_fld, wp_sl, wp_oNone, wp_oSome, wp_tBool, wp_tTru, wp_tNot, wp_tAnd, wp_tOr, wp_tAll, wp_gSlot, wp_gsNil, wp_gsCons, wp_gTup, wp_gSub, wp_iAny, wp_iSeq, wp_iTup, wp_iStr, wp_iRange1, wp_iRange2, wp_iZip, wS_fld, wp_make, seqQ, rtQ, turnQ, List.getElem?_cons_zero, List.getElem?_cons_succ, List.set_cons_zero, List.set_cons_succ, wipeD, if_true, if_false, Bool.false_eq_true, Bool.true_eq_false, reduceIte, w_add, w_iadd, w_iaddS, w_addS, w_addL, w_addT, w_sub, w_mul, w_mod, w_fdiv, w_pow, w_neg, w_lt, w_le, w_gt, w_ge, w_eqI, w_neI, w_eqT, w_neT, w_isN, w_isnotN, w_isB, w_isNB, w_len, w_lenT, w_int, w_intB, w_abs, w_min, w_max, w_tup, w_lst, w_new, w_list, w_listN, w_ix, w_ixT, w_ixD, w_inT1, w_notinT1, w_inT2, w_notinT2, w_inT3, w_notinT3, w_inT4, w_notinT4, w_inT5, w_notinT5, w_inT6, w_notinT6, w_inT7, w_notinT7, w_inT8, w_notinT8, w_sl1, at_0, at_1, at_2, at_3, at_4, at_5, hasTy_list, hasTy_str, isNonD, flatD, sEq_T, List.all_cons, List.all_nil, List.any_cons, List.any_nil, Bool.and_true, Bool.true_and, Bool.or_false, Bool.or_true, Bool.true_or, Bool.false_or, Bool.not_true, Bool.not_false, List.length_cons, List.length_nil, Nat.zero_add, Nat.reduceAdd, line_eq, true_and, and_true, String.reduceBEq, Int.reduceBEq, decide_true, decide_false, Int.reduceLT, Int.reduceLE, beq_self_eq_true, Nat.reduceLeDiff]
    rw [rx hok.2]; try simp only [wp_ok, wp_bad, wp_bind, wS_ok, wS_bad, wS_cons, wS_nil, wS_pass, wS_break, wS_cont, wS_never, wS_set, wS_expr, wS_ret, wS_retN, wS_if, wS_asg, wS_aug, wS_for, wp_lc, wp_m1, wp_m2, wp_mN, wp_aNil, wp_aCons, wp_mC, wp_var, wp_if, wp_and, wp_or, wp_not, wp_chain, wp_mt, wp_get, wp_isi, wp_fld, wp_sl, wp_oNone, wp_oSome, wp_tBool, wp_tTru, wp_tNot, wp_tAnd, wp_tOr, wp_tAll, wp_gSlot, wp_gsNil, wp_gsCons, wp_gTup, wp_gSub, wp_iAny, wp_iSeq, wp_iTup, wp_iStr, wp_iRange1, wp_iRange2, wp_iZip, wS_fld, wp_make, seqQ, rtQ, turnQ, List.getElem?_cons_zero, List.getElem?_cons_succ, List.set_cons_zero, List.set_cons_succ, wipeD, if_true, if_false, Bool.false_eq_true, Bool.true_eq_false, reduceIte, w_add, w_iadd, w_iaddS, w_addS, w_addL, w_addT, w_sub, w_mul, w_mod, w_fdiv, w_pow, w_neg, w_lt, w_le, w_gt, w_ge, w_eqI, w_neI, w_eqT, w_neT, w_isN, w_isnotN, w_isB, w_isNB, w_len, w_lenT, w_int, w_intB, w_abs, w_min, w_max, w_tup, w_lst, w_new, w_list, w_listN, w_ix, w_ixT, w_ixD, w_inT1, w_notinT1, w_inT2, w_notinT2, w_inT3, w_notinT3, w_inT4, w_notinT4, w_inT5, w_notinT5, w_inT6, w_notinT6, w_inT7, w_notinT7, w_inT8, w_notinT8, w_sl1, at_0, at_1, at_2, at_3, at_4, at_5, hasTy_list, hasTy_str, isNonD, flatD, sEq_T, List.all_cons, List.all_nil, List.any_cons, List.any_nil, Bool.and_true, Bool.true_and, Bool.or_false, Bool.or_true, Bool.true_or, Bool.false_or, Bool.not_true, Bool.not_false, List.length_cons, List.length_nil, Nat.zero_add, Nat.reduceAdd, line_eq, true_and, and_true, String.reduceBEq, Int.reduceBEq, decide_true, decide_false, Int.reduceLT, Int.reduceLE, beq_self_eq_true, Nat.reduceLeDiff]
    rw [rs hok.1]; exact fin _ _ _ _ rfl
  | add a b c =>
    unfold Ord.d Ord.word; simp only [wp_ok, wp_bad, wp_bind, wS_ok, wS_bad, wS_cons, wS_nil, wS_pass, wS_break, wS_cont, wS_never, wS_set, wS_expr, wS_ret, wS_retN, wS_if, wS_asg, wS_aug, wS_for, wp_lc, wp_m1, wp_m2, wp_mN, wp_aNil, wp_aCons, wp_mC, wp_var, wp_if, wp_and, wp_or, wp_not, wp_chain, wp_mt, wp_get, wp_isi, wp_fld, wp_sl, wp_oNone, wp_oSome, wp_tBool, wp_tTru, wp_tNot, wp_tAnd, wp_tOr, wp_tAll, wp_gSlot, wp_gsNil, wp_gsCons, wp_gTup, wp_gSub, wp_iAny, wp_iSeq, wp_iTup, wp_iStr, wp_iRange1, wp_iRange2, wp_iZip, wS_fld, wp_make, seqQ, rtQ, turnQ, List.getElem?_cons_zero, List.getElem?_cons_succ, List.set_cons_zero, List.set_cons_succ, wipeD, if_true, if_false, Bool.false_eq_true, Bool.true_eq_false, reduceIte, w_add, w_iadd, w_iaddS, w_addS, w_addL, w_addT, w_sub, w_mul, w_mod, w_fdiv, w_pow, w_neg, w_lt, w_le, w_gt, w_ge, w_eqI, w_neI, w_eqT, w_neT, w_isN, w_isnotN, w_isB, w_isNB, w_len, w_lenT, w_int, w_intB, w_abs, w_min, w_max, w_tup, w_lst, w_new, w_list, w_listN, w_ix, w_ixT, w_ixD, w_inT1, w_notinT1, w_inT2, w_notinT2, w_inT3, w_notinT3, w_inT4, w_notinT4, w_inT5, w_notinT5, w_inT6, w_notinT6, w_inT7, w_notinT7, w_inT8, w_notinT8, w_sl1, at_0, at_1, at_2, at_3, at_4, at_5, hasTy_list, hasTy_str, isNonD, flatD, sEq_T, List.all_cons, List.all_nil, List.any_cons, List.any_nil, Bool.and_true, Bool.true_and, Bool.or_false, Bool.or_true, Bool.true_or, Bool.false_or, Bool.not_true, Bool.not_false, List.length_cons, List.length_nil, Nat.zero_add, Nat.reduceAdd, line_eq, true_and, and_true, String.reduceBEq, Int.reduceBEq, decide_true, decide_false, Int.reduceLT, Int.reduceLE, beq_self_eq_true, Nat.reduceLeDiff]
    rw [rx hok.2.1]; try simp only [wp_ok, wp_bad, wp_bind, wS_ok, wS_bad, wS_cons, wS_nil, wS_pass, wS_break, wS_cont, wS_never, wS_set, wS_expr, wS_ret, wS_retN, wS_if, wS_asg, wS_aug, wS_for, wp_lc, wp_m1, wp_m2, wp_mN, wp_aNil, wp_aCons, wp_mC, wp_var, wp_if, wp_and, wp_or, wp_not, wp_chain, wp_mt, wp_get, wp_isi, wp_fld, wp_sl, wp_oNone, wp_oSome, wp_tBool, wp_tTru, wp_tNot, wp_tAnd, wp_tOr, wp_tAll, wp_gSlot, wp_gsNil, wp_gsCons, wp_gTup, wp_gSub, wp_iAny, wp_iSeq, wp_iTup, wp_iStr, wp_iRange1, wp_iRange2, wp_iZip, wS_fld, wp_make, seqQ, rtQ, turnQ, List.getElem?_cons_zero, List.getElem?_cons_succ, List.set_cons_zero, List.set_cons_succ, wipeD, if_true, if_false, Bool.false_eq_true, Bool.true_eq_false, reduceIte, w_add, w_iadd, w_iaddS, w_addS, w_addL, w_addT, w_sub, w_mul, w_mod, w_fdiv, w_pow, w_neg, w_lt, w_le, w_gt, w_ge, w_eqI, w_neI, w_eqT, w_neT, w_isN, w_isnotN, w_isB, w_isNB, w_len, w_lenT, w_int, w_intB, w_abs, w_min, w_max, w_tup, w_lst, w_new, w_list, w_listN, w_ix, w_ixT, w_ixD, w_inT1, w_notinT1, w_inT2, w_notinT2, w_inT3, w_notinT3, w_inT4, w_notinT4, w_inT5, w_notinT5, w_inT6, w_notinT6, w_inT7, w_notinT7, w_inT8, w_notinT8, w_sl1, at_0, at_1, at_2, at_3, at_4, at_5, hasTy_list, hasTy_str, isNonD, flatD, sEq_T, List.all_cons, List.all_nil, List.any_cons, List.any_nil, Bool.and_true, Bool.true_and, Bool.or_false, Bool.or_true, Bool.true_or, Bool.false_or, Bool.not_true, Bool.not_false, List.length_cons, List.length_nil, Nat.zero_add, Nat.reduceAdd, line_eq, true_and, and_true, String.reduceBEq, Int.reduceBEq, decide_true, decide_false, Int.reduceLT, Int.reduceLE, beq_self_eq_true, Nat.reduceLeDiff]
    rw [rx hok.2.2]; try simp only [wp_ok, wp_bad, wp_bind, wS_ok, wS_bad, wS_cons, wS_nil, wS_pass, wS_break, wS_cont, wS_never, wS_set, wS_expr, wS_ret, wS_retN, wS_if, wS_asg, wS_aug, wS_for, wp_lc, wp_m1, wp_m2, wp_mN, wp_aNil, wp_aCons, wp_mC, wp_var, wp_if, wp_and, wp_or, wp_not, wp_chain, wp_mt, wp_get, wp_isi, wp_fld, wp_sl, wp_oNone, wp_oSome, wp_tBool, wp_tTru, wp_tNot, wp_tAnd, wp_tOr, wp_tAll, wp_gSlot, wp_gsNil, wp_gsCons, wp_gTup, wp_gSub, wp_iAny, wp_iSeq, wp_iTup, wp_iStr, wp_iRange1, wp_iRange2, wp_iZip, wS_fld, wp_make, seqQ, rtQ, turnQ, List.getElem?_cons_zero, List.getElem?_cons_succ, List.set_cons_zero, List.set_cons_succ, wipeD, if_true, if_false, Bool.false_eq_true, Bool.true_eq_false, reduceIte, w_add, w_iadd, w_iaddS, w_addS, w_addL, w_addT, w_sub, w_mul, w_mod, w_fdiv, w_pow, w_neg, w_lt, w_le, w_gt, w_ge, w_eqI, w_neI, w_eqT, w_neT, w_isN, w_isnotN, w_isB, w_isNB, w_len, w_lenT, w_int, w_intB, w_abs, w_min, w_max, w_tup, w_lst, w_new, w_list, w_listN, w_ix, w_ixT, w_ixD, w_inT1, w_notinT1, w_inT2, w_notinT2, w_inT3, w_notinT3, w_inT4, w_notinT4, w_inT5, w_notinT5, w_inT6, w_notinT6, w_inT7, w_notinT7, w_inT8, w_notinT8, w_sl1, at_0, at_1, at_2, at_3, at_4, at_5, hasTy_list, hasTy_str, isNonD, flatD, sEq_T, List.all_cons, List.all_nil, List.any_cons, List.any_nil, Bool.and_true, Bool.true_and, Bool.or_false, Bool.or_true, Bool.true_or, Bool.false_or, Bool.not_true, Bool.not_false, List.length_cons, List.length_nil, Nat.zero_add, Nat.reduceAdd, line_eq, true_and, and_true, String.reduceBEq, Int.reduceBEq, decide_true, decide_false, Int.reduceLT, Int.reduceLE, beq_self_eq_true, Nat.reduceLeDiff]
    rw [rs hok.1]; exact fin _ _ _ _ rfl
  | times a b v =>
    unfold Ord.d Ord.word; simp only [wp_ok, wp_bad, wp_bind, wS_ok, wS_bad, wS_cons, wS_nil, wS_pass, wS_break, wS_cont, wS_never, wS_set, wS_expr, wS_ret, wS_retN, wS_if, wS_asg, wS_aug, wS_for, wp_lc, wp_m1, wp_m2, wp_mN, wp_aNil, wp_aCons, wp_mC, wp_var, wp_if, wp_and, wp_or, wp_not, wp_chain, wp_mt, wp_get, wp_isi, wp_fld, wp_sl, wp_oNone, wp_oSome, wp_tBool, wp_tTru, wp_tNot, wp_tAnd, wp_tOr, wp_tAll, wp_gSlot, wp_gsNil, wp_gsCons, wp_gTup, wp_gSub, wp_iAny, wp_iSeq, wp_iTup, wp_iStr, wp_iRange1, wp_iRange2, wp_iZip, wS_fld, wp_make, seqQ, rtQ, turnQ, List.getElem?_cons_zero, List.getElem?_cons_succ, List.set_cons_zero, List.set_cons_succ, wipeD, if_true, if_false, Bool.false_eq_true, Bool.true_eq_false, reduceIte, w_add, w_iadd, w_iaddS, w_addS, w_addL, w_addT, w_sub, w_mul, w_mod, w_fdiv, w_pow, w_neg, w_lt, w_le, w_gt, w_ge, w_eqI, w_neI, w_eqT, w_neT, w_isN, w_isnotN, w_isB, w_isNB, w_len, w_lenT, w_int, w_intB, w_abs, w_min, w_max, w_tup, w_lst, w_new, w_list, w_listN, w_ix, w_ixT, w_ixD, w_inT1, w_notinT1, w_inT2, w_notinT2, w_inT3, w_notinT3, w_inT4, w_notinT4, w_inT5, w_notinT5, w_inT6, w_notinT6, w_inT7, w_notinT7, w_inT8, w_notinT8, w_sl1, at_0, at_1, at_2, at_3, at_4, at_5, hasTy_list, hasTy_str, isNonD, flatD, sEq_T, List.all_cons, List.all_nil, List.any_cons, List.any_nil, Bool.and_true, Bool.true_and, Bool.or_false, Bool.or_true, Bool.true_or, Bool.false_or, Bool.not_true, Bool.not_false, List.length_cons, List.length_nil, Nat.zero_add, Nat.reduceAdd, line_eq, true_and, and_true, String.reduceBEq, Int.reduceBEq, decide_true, decide_false, Int.reduceLT, Int.reduceLE, beq_self_eq_true, Nat.reduceLeDiff]
    rw [rx hok.2.1]; try simp only [wp_ok, wp_bad, wp_bind, wS_ok, wS_bad, wS_cons, wS_nil, wS_pass, wS_break, wS_cont, wS_never, wS_set, wS_expr, wS_ret, wS_retN, wS_if, wS_asg, wS_aug, wS_for, wp_lc, wp_m1, wp_m2, wp_mN, wp_aNil, wp_aCons, wp_mC, wp_var, wp_if, wp_and, wp_or, wp_not, wp_chain, wp_mt, wp_get, wp_isi, wp_fld, wp_sl, wp_oNone, wp_oSome, wp_tBool, wp_tTru, wp_tNot, wp_tAnd, wp_tOr, wp_tAll, wp_gSlot, wp_gsNil, wp_gsCons, wp_gTup, wp_gSub, wp_iAny, wp_iSeq, wp_iTup, wp_iStr, wp_iRange1, wp_iRange2, wp_iZip, wS_fld, wp_make, seqQ, rtQ, turnQ, List.getElem?_cons_zero, List.getElem?_cons_succ, List.set_cons_zero, List.set_cons_succ, wipeD, if_true, if_false, Bool.false_eq_true, Bool.true_eq_false, reduceIte, w_add, w_iadd, w_iaddS, w_addS, w_addL, w_addT, w_sub, w_mul, w_mod, w_fdiv, w_pow, w_neg, w_lt, w_le, w_gt, w_ge, w_eqI, w_neI, w_eqT, w_neT, w_isN, w_isnotN, w_isB, w_isNB, w_len, w_lenT, w_int, w_intB, w_abs, w_min, w_max, w_tup, w_lst, w_new, w_list, w_listN, w_ix, w_ixT, w_ixD, w_inT1, w_notinT1, w_inT2, w_notinT2, w_inT3, w_notinT3, w_inT4, w_notinT4, w_inT5, w_notinT5, w_inT6, w_notinT6, w_inT7, w_notinT7, w_inT8, w_notinT8, w_sl1, at_0, at_1, at_2, at_3, at_4, at_5, hasTy_list, hasTy_str, isNonD, flatD, sEq_T, List.all_cons, List.all_nil, List.any_cons, List.any_nil, Bool.and_true, Bool.true_and, Bool.or_false, Bool.or_true, Bool.true_or, Bool.false_or, Bool.not_true, Bool.not_false, List.length_cons, List.length_nil, Nat.zero_add, Nat.reduceAdd, line_eq, true_and, and_true, String.reduceBEq, Int.reduceBEq, decide_true, decide_false, Int.reduceLT, Int.reduceLE, beq_self_eq_true, Nat.reduceLeDiff]
    refine ⟨?_, ?_⟩
    · have h1 := bits_le (hb.get hok.2.1).2 (by omega)
      have h2 : iBits v ≤ 32 := small_bits (k := 32) (by have := hok.2.2.1; have := hok.2.2.2; omega)
      omega
    · rw [rs hok.1]; exact fin _ _ _ _ rfl
  | over a d =>
    unfold Ord.d Ord.word; simp only [wp_ok, wp_bad, wp_bind, wS_ok, wS_bad, wS_cons, wS_nil, wS_pass, wS_break, wS_cont, wS_never, wS_set, wS_expr, wS_ret, wS_retN, wS_if, wS_asg, wS_aug, wS_for, wp_lc, wp_m1, wp_m2, wp_mN, wp_aNil, wp_aCons, wp_mC, wp_var, wp_if, wp_and, wp_or, wp_not, wp_chain, wp_mt, wp_get, wp_isi, wp_fld, wp_sl, wp_oNone, wp_oSome, wp_tBool, wp_tTru, wp_tNot, wp_tAnd, wp_tOr, wp_tAll, wp_gSlot, wp_gsNil, wp_gsCons, wp_gTup, wp_gSub, wp_iAny, wp_iSeq, wp_iTup, wp_iStr, wp_iRange1, wp_iRange2, wp_iZip, wS_fld, wp_make, seqQ, rtQ, turnQ, List.getElem?_cons_zero, List.getElem?_cons_succ, List.set_cons_zero, List.set_cons_succ, wipeD, if_true, if_false, Bool.false_eq_true, Bool.true_eq_false, reduceIte, w_add, w_iadd, w_iaddS, w_addS, w_addL, w_addT, w_sub, w_mul, w_mod, w_fdiv, w_pow, w_neg, w_lt, w_le, w_gt, w_ge, w_eqI, w_neI, w_eqT, w_neT, w_isN, w_isnotN, w_isB, w_isNB, w_len, w_lenT, w_int, w_intB, w_abs, w_min, w_max, w_tup, w_lst, w_new, w_list, w_listN, w_ix, w_ixT, w_ixD, w_inT1, w_notinT1, w_inT2, w_notinT2, w_inT3, w_notinT3, w_inT4, w_notinT4, w_inT5, w_notinT5, w_inT6, w_notinT6, w_inT7, w_notinT7, w_inT8, w_notinT8, w_sl1, at_0, at_1, at_2, at_3, at_4, at_5, hasTy_list, hasTy_str, isNonD, flatD, sEq_T, List.all_cons, List.all_nil, List.any_cons, List.any_nil, Bool.and_true, Bool.true_and, Bool.or_false, Bool.or_true, Bool.true_or, Bool.false_or, Bool.not_true, Bool.not_false, List.length_cons, List.length_nil, Nat.zero_add, Nat.reduceAdd, line_eq, true_and, and_true, String.reduceBEq, Int.reduceBEq, decide_true, decide_false, Int.reduceLT, Int.reduceLE, beq_self_eq_true, Nat.reduceLeDiff]
    refine ⟨by have := hok.2.1; omega, ⟨by have := hok.2.1; omega, log_small hok.2.1 hok.2.2⟩, ?_⟩
    have ed : (n - n % d) / d = n / d := by
      have hd : d ≠ 0 := by have := hok.2.1; omega
      have h1 := Int.emod_add_mul_ediv n d
      have h2 : n - n % d = d * (n / d) := by omega
      rw [h2, Int.mul_ediv_cancel_left _ hd]
    rw [ed, rs hok.1]; exact fin _ _ _ _ rfl
  | rest a d =>
    unfold Ord.d Ord.word; simp only [wp_ok, wp_bad, wp_bind, wS_ok, wS_bad, wS_cons, wS_nil, wS_pass, wS_break, wS_cont, wS_never, wS_set, wS_expr, wS_ret, wS_retN, wS_if, wS_asg, wS_aug, wS_for, wp_lc, wp_m1, wp_m2, wp_mN, wp_aNil, wp_aCons, wp_mC, wp_var, wp_if, wp_and, wp_or, wp_not, wp_chain, wp_mt, wp_get, wp_isi, wp_fld, wp_sl, wp_oNone, wp_oSome, wp_tBool, wp_tTru, wp_tNot, wp_tAnd, wp_tOr, wp_tAll, wp_gSlot, wp_gsNil, wp_gsCons, wp_gTup, wp_gSub, wp_iAny, wp_iSeq, wp_iTup, wp_iStr, wp_iRange1, wp_iRange2, wp_iZip, wS_fld, wp_make, seqQ, rtQ, turnQ, List.getElem?_cons_zero, List.getElem?_cons_succ, List.set_cons_zero, List.set_cons_succ, wipeD, if_true, if_false, Bool.false_eq_true, Bool.true_eq_false, reduceIte, w_add, w_iadd, w_iaddS, w_addS, w_addL, w_addT, w_sub, w_mul, w_mod, w_fdiv, w_pow, w_neg, w_lt, w_le, w_gt, w_ge, w_eqI, w_neI, w_eqT, w_neT, w_isN, w_isnotN, w_isB, w_isNB, w_len, w_lenT, w_int, w_intB, w_abs, w_min, w_max, w_tup, w_lst, w_new, w_list, w_listN, w_ix, w_ixT, w_ixD, w_inT1, w_notinT1, w_inT2, w_notinT2, w_inT3, w_notinT3, w_inT4, w_notinT4, w_inT5, w_notinT5, w_inT6, w_notinT6, w_inT7, w_notinT7, w_inT8, w_notinT8, w_sl1, at_0, at_1, at_2, at_3, at_4, at_5, hasTy_list, hasTy_str, isNonD, flatD, sEq_T, List.all_cons, List.all_nil, List.any_cons, List.any_nil, Bool.and_true, Bool.true_and, Bool.or_false, Bool.or_true, Bool.true_or, Bool.false_or, Bool.not_true, Bool.not_false, List.length_cons, List.length_nil, Nat.zero_add, Nat.reduceAdd, line_eq, true_and, and_true, String.reduceBEq, Int.reduceBEq, decide_true, decide_false, Int.reduceLT, Int.reduceLE, beq_self_eq_true, Nat.reduceLeDiff]
    refine ⟨by have := hok.2.1; omega, ?_⟩
    rw [rs hok.1]; exact fin _ _ _ _ rfl
  | less a b c =>
    unfold Ord.d Ord.word; simp only [wp_ok, wp_bad, wp_bind, wS_ok, wS_bad, wS_cons, wS_nil, wS_pass, wS_break, wS_cont, wS_never, wS_set, wS_expr, wS_ret, wS_retN, wS_if, wS_asg, wS_aug, wS_for, wp_lc, wp_m1, wp_m2, wp_mN, wp_aNil, wp_aCons, wp_mC, wp_var, wp_if, wp_and, wp_or, wp_not, wp_chain, wp_mt, wp_get, wp_isi, wp_fld, wp_sl, wp_oNone, wp_oSome, wp_tBool, wp_tTru, wp_tNot, wp_tAnd, wp_tOr, wp_tAll, wp_gSlot, wp_gsNil, wp_gsCons, wp_gTup, wp_gSub, wp_iAny, wp_iSeq, wp_iTup, wp_iStr, wp_iRange1, wp_iRange2, wp_iZip, wS_fld, wp_make, seqQ, rtQ, turnQ, List.getElem?_cons_zero, List.getElem?_cons_succ, List.set_cons_zero, List.set_cons_succ, wipeD, if_true, if_false, Bool.false_eq_true, Bool.true_eq_false, reduceIte, w_add, w_iadd, w_iaddS, w_addS, w_addL, w_addT, w_sub, w_mul, w_mod, w_fdiv, w_pow, w_neg, w_lt, w_le, w_gt, w_ge, w_eqI, w_neI, w_eqT, w_neT, w_isN, w_isnotN, w_isB, w_isNB, w_len, w_lenT, w_int, w_intB, w_abs, w_min, w_max, w_tup, w_lst, w_new, w_list, w_listN, w_ix, w_ixT, w_ixD, w_inT1, w_notinT1, w_inT2, w_notinT2, w_inT3, w_notinT3, w_inT4, w_notinT4, w_inT5, w_notinT5, w_inT6, w_notinT6, w_inT7, w_notinT7, w_inT8, w_notinT8, w_sl1, at_0, at_1, at_2, at_3, at_4, at_5, hasTy_list, hasTy_str, isNonD, flatD, sEq_T, List.all_cons, List.all_nil, List.any_cons, List.any_nil, Bool.and_true, Bool.true_and, Bool.or_false, Bool.or_true, Bool.true_or, Bool.false_or, Bool.not_true, Bool.not_false, List.length_cons, List.length_nil, Nat.zero_add, Nat.reduceAdd, line_eq, true_and, and_true, String.reduceBEq, Int.reduceBEq, decide_true, decide_false, Int.reduceLT, Int.reduceLE, beq_self_eq_true, Nat.reduceLeDiff]
    rw [rx hok.1]; try simp only [wp_ok, wp_bad, wp_bind, wS_ok, wS_bad, wS_cons, wS_nil, wS_pass, wS_break, wS_cont, wS_never, wS_set, wS_expr, wS_ret, wS_retN, wS_if, wS_asg, wS_aug, wS_for, wp_lc, wp_m1, wp_m2, wp_mN, wp_aNil, wp_aCons, wp_mC, wp_var, wp_if, wp_and, wp_or, wp_not, wp_chain, wp_mt, wp_get, wp_isi, wp_fld, wp_sl, wp_oNone, wp_oSome, wp_tBool, wp_tTru, wp_tNot, wp_tAnd, wp_tOr, wp_tAll, wp_gSlot, wp_gsNil, wp_gsCons, wp_gTup, wp_gSub, wp_iAny, wp_iSeq, wp_iTup, wp_iStr, wp_iRange1, wp_iRange2, wp_iZip, wS_fld, wp_make, seqQ, rtQ, turnQ, List.getElem?_cons_zero, List.getElem?_cons_succ, List.set_cons_zero, List.set_cons_succ, wipeD, if_true, if_false, Bool.false_eq_true, Bool.true_eq_false, reduceIte, w_add, w_iadd, w_iaddS, w_addS, w_addL, w_addT, w_sub, w_mul, w_mod, w_fdiv, w_pow, w_neg, w_lt, w_le, w_gt, w_ge, w_eqI, w_neI, w_eqT, w_neT, w_isN, w_isnotN, w_isB, w_isNB, w_len, w_lenT, w_int, w_intB, w_abs, w_min, w_max, w_tup, w_lst, w_new, w_list, w_listN, w_ix, w_ixT, w_ixD, w_inT1, w_notinT1, w_inT2, w_notinT2, w_inT3, w_notinT3, w_inT4, w_notinT4, w_inT5, w_notinT5, w_inT6, w_notinT6, w_inT7, w_notinT7, w_inT8, w_notinT8, w_sl1, at_0, at_1, at_2, at_3, at_4, at_5, hasTy_list, hasTy_str, isNonD, flatD, sEq_T, List.all_cons, List.all_nil, List.any_cons, List.any_nil, Bool.and_true, Bool.true_and, Bool.or_false, Bool.or_true, Bool.true_or, Bool.false_or, Bool.not_true, Bool.not_false, List.length_cons, List.length_nil, Nat.zero_add, Nat.reduceAdd, line_eq, true_and, and_true, String.reduceBEq, Int.reduceBEq, decide_true, decide_false, Int.reduceLT, Int.reduceLE, beq_self_eq_true, Nat.reduceLeDiff]
    rw [rx hok.2.1]; try simp only [wp_ok, wp_bad, wp_bind, wS_ok, wS_bad, wS_cons, wS_nil, wS_pass, wS_break, wS_cont, wS_never, wS_set, wS_expr, wS_ret, wS_retN, wS_if, wS_asg, wS_aug, wS_for, wp_lc, wp_m1, wp_m2, wp_mN, wp_aNil, wp_aCons, wp_mC, wp_var, wp_if, wp_and, wp_or, wp_not, wp_chain, wp_mt, wp_get, wp_isi, wp_fld, wp_sl, wp_oNone, wp_oSome, wp_tBool, wp_tTru, wp_tNot, wp_tAnd, wp_tOr, wp_tAll, wp_gSlot, wp_gsNil, wp_gsCons, wp_gTup, wp_gSub, wp_iAny, wp_iSeq, wp_iTup, wp_iStr, wp_iRange1, wp_iRange2, wp_iZip, wS_fld, wp_make, seqQ, rtQ, turnQ, List.getElem?_cons_zero, List.getElem?_cons_succ, List.set_cons_zero, List.set_cons_succ, wipeD, if_true, if_false, Bool.false_eq_true, Bool.true_eq_false, reduceIte, w_add, w_iadd, w_iaddS, w_addS, w_addL, w_addT, w_sub, w_mul, w_mod, w_fdiv, w_pow, w_neg, w_lt, w_le, w_gt, w_ge, w_eqI, w_neI, w_eqT, w_neT, w_isN, w_isnotN, w_isB, w_isNB, w_len, w_lenT, w_int, w_intB, w_abs, w_min, w_max, w_tup, w_lst, w_new, w_list, w_listN, w_ix, w_ixT, w_ixD, w_inT1, w_notinT1, w_inT2, w_notinT2, w_inT3, w_notinT3, w_inT4, w_notinT4, w_inT5, w_notinT5, w_inT6, w_notinT6, w_inT7, w_notinT7, w_inT8, w_notinT8, w_sl1, at_0, at_1, at_2, at_3, at_4, at_5, hasTy_list, hasTy_str, isNonD, flatD, sEq_T, List.all_cons, List.all_nil, List.any_cons, List.any_nil, Bool.and_true, Bool.true_and, Bool.or_false, Bool.or_true, Bool.true_or, Bool.false_or, Bool.not_true, Bool.not_false, List.length_cons, List.length_nil, Nat.zero_add, Nat.reduceAdd, line_eq, true_and, and_true, String.reduceBEq, Int.reduceBEq, decide_true, decide_false, Int.reduceLT, Int.reduceLE, beq_self_eq_true, Nat.reduceLeDiff]
    refine ⟨hasTy_ref (xs := notes ts) rfl, ?_⟩
    rw [w_append (xs := notes ts) rfl]
    refine ⟨by unfold notes; rw [List.length_map]; exact hle2, ?_⟩
    have en : notes ts ++ [D.tup [D.int (((at_ + 1 : Nat) : Int) - 1), D.int (get r a - get r b)]] = notes (ts ++ [(((at_ + 1 : Nat) : Int) - 1, get r a - get r b)]) := by simp [notes]
    simp only [List.set_cons_succ, List.set_cons_zero, en]
    rw [ek c hok.2.2.1]
    have hl2 : (ts ++ [(((at_ + 1 : Nat) : Int) - 1, get r a - get r b)]).length ≤ at_ + 1 := by simp; omega
    have kk := fun v6 v7 v8 v9 => k (ts ++ [(((at_ + 1 : Nat) : Int) - 1, get r a - get r b)]) v6 v7 v8 v9 hl2
    simp only [Ord.to] at kk
    generalize hz : get r a - get r b = z at kk ⊢
    rcases Int.lt_trichotomy z 0 with h | h | h
    · have e1 : (z == 0) = false := by simp; omega
      have e2 : decide (z > 0) = false := decide_eq_false (by omega)
      rw [if_neg (show ¬ get r a ≥ get r b by omega)] at kk
      simp only [e1, e2, Bool.not_false, Bool.false_eq_true, if_true, if_false]
      exact kk _ _ _ _
    · have e1 : (z == 0) = true := by simp; omega
      have e2 : decide (z > 0) = false := decide_eq_false (by omega)
      rw [if_pos (show get r a ≥ get r b by omega)] at kk
      simp only [e1, e2, Bool.not_true, Bool.false_eq_true, if_true, if_false]
      exact kk _ _ _ _
    · have e1 : (z == 0) = false := by simp; omega
      have e2 : decide (z > 0) = true := decide_eq_true (by omega)
      rw [if_pos (show get r a ≥ get r b by omega)] at kk
      simp only [e1, e2, Bool.not_false, Bool.false_eq_true, if_true, if_false]
      exact kk _ _ _ _
  | same a b c =>
    unfold Ord.d Ord.word; simp only [wp_ok, wp_bad, wp_bind, wS_ok, wS_bad, wS_cons, wS_nil, wS_pass, wS_break, wS_cont, wS_never, wS_set, wS_expr, wS_ret, wS_retN, wS_if, wS_asg, wS_aug, wS_for, wp_lc, wp_m1, wp_m2, wp_mN, wp_aNil, wp_aCons, wp_mC, wp_var, wp_if, wp_and, wp_or, wp_not, wp_chain, wp_mt, wp_get, wp_isi, wp_fld, wp_sl, wp_oNone, wp_oSome, wp_tBool, wp_tTru, wp_tNot, wp_tAnd, wp_tOr, wp_tAll, wp_gSlot, wp_gsNil, wp_gsCons, wp_gTup, wp_gSub, wp_iAny, wp_iSeq, wp_iTup, wp_iStr, wp_iRange1, wp_iRange2, wp_iZip, wS_fld, wp_make, seqQ, rtQ, turnQ, List.getElem?_cons_zero, List.getElem?_cons_succ, List.set_cons_zero, List.set_cons_succ, wipeD, if_true, if_false, Bool.false_eq_true, Bool.true_eq_false, reduceIte, w_add, w_iadd, w_iaddS, w_addS, w_addL, w_addT, w_sub, w_mul, w_mod, w_fdiv, w_pow, w_neg, w_lt, w_le, w_gt, w_ge, w_eqI, w_neI, w_eqT, w_neT, w_isN, w_isnotN, w_isB, w_isNB, w_len, w_lenT, w_int, w_intB, w_abs, w_min, w_max, w_tup, w_lst, w_new, w_list, w_listN, w_ix, w_ixT, w_ixD, w_inT1, w_notinT1, w_inT2, w_notinT2, w_inT3, w_notinT3, w_inT4, w_notinT4, w_inT5, w_notinT5, w_inT6, w_notinT6, w_inT7, w_notinT7, w_inT8, w_notinT8, w_sl1, at_0, at_1, at_2, at_3, at_4, at_5, hasTy_list, hasTy_str, isNonD, flatD, sEq_T, List.all_cons, List.all_nil, List.any_cons, List.any_nil, Bool.and_true, Bool.true_and, Bool.or_false, Bool.or_true, Bool.true_or, Bool.false_or, Bool.not_true, Bool.not_false, List.length_cons, List.length_nil, Nat.zero_add, Nat.reduceAdd, line_eq, true_and, and_true, String.reduceBEq, Int.reduceBEq, decide_true, decide_false, Int.reduceLT, Int.reduceLE, beq_self_eq_true, Nat.reduceLeDiff]
    rw [rx hok.1]; try simp only [wp_ok, wp_bad, wp_bind, wS_ok, wS_bad, wS_cons, wS_nil, wS_pass, wS_break, wS_cont, wS_never, wS_set, wS_expr, wS_ret, wS_retN, wS_if, wS_asg, wS_aug, wS_for, wp_lc, wp_m1, wp_m2, wp_mN, wp_aNil, wp_aCons, wp_mC, wp_var, wp_if, wp_and, wp_or, wp_not, wp_chain, wp_mt, wp_get, wp_isi, wp_fld, wp_sl, wp_oNone, wp_oSome, wp_tBool, wp_tTru, wp_tNot, wp_tAnd, wp_tOr, wp_tAll, wp_gSlot, wp_gsNil, wp_gsCons, wp_gTup, wp_gSub, wp_iAny, wp_iSeq, wp_iTup, wp_iStr, wp_iRange1, wp_iRange2, wp_iZip, wS_fld, wp_make, seqQ, rtQ, turnQ, List.getElem?_cons_zero, List.getElem?_cons_succ, List.set_cons_zero, List.set_cons_succ, wipeD, if_true, if_false, Bool.false_eq_true, Bool.true_eq_false, reduceIte, w_add, w_iadd, w_iaddS, w_addS, w_addL, w_addT, w_sub, w_mul, w_mod, w_fdiv, w_pow, w_neg, w_lt, w_le, w_gt, w_ge, w_eqI, w_neI, w_eqT, w_neT, w_isN, w_isnotN, w_isB, w_isNB, w_len, w_lenT, w_int, w_intB, w_abs, w_min, w_max, w_tup, w_lst, w_new, w_list, w_listN, w_ix, w_ixT, w_ixD, w_inT1, w_notinT1, w_inT2, w_notinT2, w_inT3, w_notinT3, w_inT4, w_notinT4, w_inT5, w_notinT5, w_inT6, w_notinT6, w_inT7, w_notinT7, w_inT8, w_notinT8, w_sl1, at_0, at_1, at_2, at_3, at_4, at_5, hasTy_list, hasTy_str, isNonD, flatD, sEq_T, List.all_cons, List.all_nil, List.any_cons, List.any_nil, Bool.and_true, Bool.true_and, Bool.or_false, Bool.or_true, Bool.true_or, Bool.false_or, Bool.not_true, Bool.not_false, List.length_cons, List.length_nil, Nat.zero_add, Nat.reduceAdd, line_eq, true_and, and_true, String.reduceBEq, Int.reduceBEq, decide_true, decide_false, Int.reduceLT, Int.reduceLE, beq_self_eq_true, Nat.reduceLeDiff]
    rw [rx hok.2.1]; try simp only [wp_ok, wp_bad, wp_bind, wS_ok, wS_bad, wS_cons, wS_nil, wS_pass, wS_break, wS_cont, wS_never, wS_set, wS_expr, wS_ret, wS_retN, wS_if, wS_asg, wS_aug, wS_for, wp_lc, wp_m1, wp_m2, wp_mN, wp_aNil, wp_aCons, wp_mC, wp_var, wp_if, wp_and, wp_or, wp_not, wp_chain, wp_mt, wp_get, wp_isi, wp_fld, wp_sl, wp_oNone, wp_oSome, wp_tBool, wp_tTru, wp_tNot, wp_tAnd, wp_tOr, wp_tAll, wp_gSlot, wp_gsNil, wp_gsCons, wp_gTup, wp_gSub, wp_iAny, wp_iSeq, wp_iTup, wp_iStr, wp_iRange1, wp_iRange2, wp_iZip, wS_fld, wp_make, seqQ, rtQ, turnQ, List.getElem?_cons_zero, List.getElem?_cons_succ, List.set_cons_zero, List.set_cons_succ, wipeD, if_true, if_false, Bool.false_eq_true, Bool.true_eq_false, reduceIte, w_add, w_iadd, w_iaddS, w_addS, w_addL, w_addT, w_sub, w_mul, w_mod, w_fdiv, w_pow, w_neg, w_lt, w_le, w_gt, w_ge, w_eqI, w_neI, w_eqT, w_neT, w_isN, w_isnotN, w_isB, w_isNB, w_len, w_lenT, w_int, w_intB, w_abs, w_min, w_max, w_tup, w_lst, w_new, w_list, w_listN, w_ix, w_ixT, w_ixD, w_inT1, w_notinT1, w_inT2, w_notinT2, w_inT3, w_notinT3, w_inT4, w_notinT4, w_inT5, w_notinT5, w_inT6, w_notinT6, w_inT7, w_notinT7, w_inT8, w_notinT8, w_sl1, at_0, at_1, at_2, at_3, at_4, at_5, hasTy_list, hasTy_str, isNonD, flatD, sEq_T, List.all_cons, List.all_nil, List.any_cons, List.any_nil, Bool.and_true, Bool.true_and, Bool.or_false, Bool.or_true, Bool.true_or, Bool.false_or, Bool.not_true, Bool.not_false, List.length_cons, List.length_nil, Nat.zero_add, Nat.reduceAdd, line_eq, true_and, and_true, String.reduceBEq, Int.reduceBEq, decide_true, decide_false, Int.reduceLT, Int.reduceLE, beq_self_eq_true, Nat.reduceLeDiff]
    refine ⟨hasTy_ref (xs := notes ts) rfl, ?_⟩
    rw [w_append (xs := notes ts) rfl]
    refine ⟨by unfold notes; rw [List.length_map]; exact hle2, ?_⟩
    have en : notes ts ++ [D.tup [D.int (((at_ + 1 : Nat) : Int) - 1), D.int (get r a - get r b)]] = notes (ts ++ [(((at_ + 1 : Nat) : Int) - 1, get r a - get r b)]) := by simp [notes]
    simp only [List.set_cons_succ, List.set_cons_zero, en]
    rw [ek c hok.2.2.1]
    have hl2 : (ts ++ [(((at_ + 1 : Nat) : Int) - 1, get r a - get r b)]).length ≤ at_ + 1 := by simp; omega
    have kk := fun v6 v7 v8 v9 => k (ts ++ [(((at_ + 1 : Nat) : Int) - 1, get r a - get r b)]) v6 v7 v8 v9 hl2
    simp only [Ord.to] at kk
    generalize hz : get r a - get r b = z at kk ⊢
    rcases Int.lt_trichotomy z 0 with h | h | h
    · have e1 : (z == 0) = false := by simp; omega
      have e2 : decide (z > 0) = false := decide_eq_false (by omega)
      rw [if_pos (show get r a ≠ get r b by omega)] at kk
      simp only [e1, e2, Bool.not_false, Bool.false_eq_true, if_true, if_false]
      exact kk _ _ _ _
    · have e1 : (z == 0) = true := by simp; omega
      have e2 : decide (z > 0) = false := decide_eq_false (by omega)
      rw [if_neg (show ¬ get r a ≠ get r b by omega)] at kk
      simp only [e1, e2, Bool.not_true, Bool.false_eq_true, if_true, if_false]
      exact kk _ _ _ _
    · have e1 : (z == 0) = false := by simp; omega
      have e2 : decide (z > 0) = true := decide_eq_true (by omega)
      rw [if_pos (show get r a ≠ get r b by omega)] at kk
      simp only [e1, e2, Bool.not_false, Bool.false_eq_true, if_true, if_false]
      exact kk _ _ _ _
  | skip c =>
    unfold Ord.d Ord.word; simp only [wp_ok, wp_bad, wp_bind, wS_ok, wS_bad, wS_cons, wS_nil, wS_pass, wS_break, wS_cont, wS_never, wS_set, wS_expr, wS_ret, wS_retN, wS_if, wS_asg, wS_aug, wS_for, wp_lc, wp_m1, wp_m2, wp_mN, wp_aNil, wp_aCons, wp_mC, wp_var, wp_if, wp_and, wp_or, wp_not, wp_chain, wp_mt, wp_get, wp_isi, wp_fld, wp_sl, wp_oNone, wp_oSome, wp_tBool, wp_tTru, wp_tNot, wp_tAnd, wp_tOr, wp_tAll, wp_gSlot, wp_gsNil, wp_gsCons, wp_gTup, wp_gSub, wp_iAny, wp_iSeq, wp_iTup, wp_iStr, wp_iRange1, wp_iRange2, wp_iZip, wS_fld, wp_make, seqQ, rtQ, turnQ, List.getElem?_cons_zero, List.getElem?_cons_succ, List.set_cons_zero, List.set_cons_succ, wipeD, if_true, if_false, Bool.false_eq_true, Bool.true_eq_false, reduceIte, w_add, w_iadd, w_iaddS, w_addS, w_addL, w_addT, w_sub, w_mul, w_mod, w_fdiv, w_pow, w_neg, w_lt, w_le, w_gt, w_ge, w_eqI, w_neI, w_eqT, w_neT, w_isN, w_isnotN, w_isB, w_isNB, w_len, w_lenT, w_int, w_intB, w_abs, w_min, w_max, w_tup, w_lst, w_new, w_list, w_listN, w_ix, w_ixT, w_ixD, w_inT1, w_notinT1, w_inT2, w_notinT2, w_inT3, w_notinT3, w_inT4, w_notinT4, w_inT5, w_notinT5, w_inT6, w_notinT6, w_inT7, w_notinT7, w_inT8, w_notinT8, w_sl1, at_0, at_1, at_2, at_3, at_4, at_5, hasTy_list, hasTy_str, isNonD, flatD, sEq_T, List.all_cons, List.all_nil, List.any_cons, List.any_nil, Bool.and_true, Bool.true_and, Bool.or_false, Bool.or_true, Bool.true_or, Bool.false_or, Bool.not_true, Bool.not_false, List.length_cons, List.length_nil, Nat.zero_add, Nat.reduceAdd, line_eq, true_and, and_true, String.reduceBEq, Int.reduceBEq, decide_true, decide_false, Int.reduceLT, Int.reduceLE, beq_self_eq_true, Nat.reduceLeDiff]
    rw [ek c hok.1]
    exact k ts _ _ _ _ (by omega)
  | answer a => cases hon
  | lose => cases hon
theorem run_end {f at_ : Nat} {r p : List Int} {ts : List (Int × Int)} {v6 v7 v8 v9 : Option D} {K : Rho → S → Prop} {Q' : C → S → Prop} (hlow : Low A B) (hbd : Bd at_ r) (hok : ∀ o, os[at_]? = some o → o.on = false ∧ ∃ b, o.ok b) (hp : p.length ≤ 33)
    (k : ∀ f, Q (.tup [opt (exec os n (f + 1) at_ r p).1, .lst ((exec os n (f + 1) at_ r p).2.map .int), .lst (notes ts)]) [A, B]) (hQ : ∀ d s, fzQ 2 Q d s → Q' (.rt d) s) :
    wS (run_b [some (.lst (os.map Ord.d)), some (.int n), some (.ref 2), some (.ref 3), some (.ref 4), some (.int at_), v6, v7, v8, v9] [A, B, .lst (r.map .int), .lst (p.map .int), .lst (notes ts)]) (turnQ K Q') := by
  have hlen : (os.map Ord.d).length = os.length := List.length_map _
  have ep : p.map D.int ++ [D.int at_] = (p ++ [(at_ : Int)]).map D.int := by simp
  unfold run_b
  by_cases hlt : at_ < os.length
  · have ho : os[at_]? = some os[at_] := List.getElem?_eq_getElem hlt
    generalize os[at_] = o at ho
    obtain ⟨hon, b, hob⟩ := hok o ho
    have hge : decide ((at_ : Int) ≥ (os.length : Nat)) = false := decide_eq_false (by omega)
    have k1 := k 0
    rw [exec, ho] at k1
    cases o with
    | answer a =>
      simp only [wp_ok, wp_bad, wp_bind, wS_ok, wS_bad, wS_cons, wS_nil, wS_pass, wS_break, wS_cont, wS_never, wS_set, wS_expr, wS_ret, wS_retN, wS_if, wS_asg, wS_aug, wS_for, wp_lc, wp_m1, wp_m2, wp_mN, wp_aNil, wp_aCons, wp_mC, wp_var, wp_if, wp_and, wp_or, wp_not, wp_chain, wp_mt, wp_get, wp_isi, wp_fld, wp_sl, wp_oNone, wp_oSome, wp_tBool, wp_tTru, wp_tNot, wp_tAnd, wp_tOr, wp_tAll, wp_gSlot, wp_gsNil, wp_gsCons, wp_gTup, wp_gSub, wp_iAny, wp_iSeq, wp_iTup, wp_iStr, wp_iRange1, wp_iRange2, wp_iZip, wS_fld, wp_make, seqQ, rtQ, turnQ, List.getElem?_cons_zero, List.getElem?_cons_succ, List.set_cons_zero, List.set_cons_succ, wipeD, if_true, if_false, Bool.false_eq_true, Bool.true_eq_false, reduceIte, w_add, w_iadd, w_iaddS, w_addS, w_addL, w_addT, w_sub, w_mul, w_mod, w_fdiv, w_pow, w_neg, w_lt, w_le, w_gt, w_ge, w_eqI, w_neI, w_eqT, w_neT, w_isN, w_isnotN, w_isB, w_isNB, w_len, w_lenT, w_int, w_intB, w_abs, w_min, w_max, w_tup, w_lst, w_new, w_list, w_listN, w_ix, w_ixT, w_ixD, w_inT1, w_notinT1, w_inT2, w_notinT2, w_inT3, w_notinT3, w_inT4, w_notinT4, w_inT5, w_notinT5, w_inT6, w_notinT6, w_inT7, w_notinT7, w_inT8, w_notinT8, w_sl1, at_0, at_1, at_2, at_3, at_4, at_5, hasTy_list, hasTy_str, isNonD, flatD, sEq_T, List.all_cons, List.all_nil, List.any_cons, List.any_nil, Bool.and_true, Bool.true_and, Bool.or_false, Bool.or_true, Bool.true_or, Bool.false_or, Bool.not_true, Bool.not_false, List.length_cons, List.length_nil, Nat.zero_add, Nat.reduceAdd, line_eq, true_and, and_true, String.reduceBEq, Int.reduceBEq, decide_true, decide_false, Int.reduceLT, Int.reduceLE, beq_self_eq_true, Nat.reduceLeDiff]
      rw [hlen, hge]
      simp only [wp_ok, wp_bad, wp_bind, wS_ok, wS_bad, wS_cons, wS_nil, wS_pass, wS_break, wS_cont, wS_never, wS_set, wS_expr, wS_ret, wS_retN, wS_if, wS_asg, wS_aug, wS_for, wp_lc, wp_m1, wp_m2, wp_mN, wp_aNil, wp_aCons, wp_mC, wp_var, wp_if, wp_and, wp_or, wp_not, wp_chain, wp_mt, wp_get, wp_isi, wp_fld, wp_sl, wp_oNone, wp_oSome, wp_tBool, wp_tTru, wp_tNot, wp_tAnd, wp_tOr, wp_tAll, wp_gSlot, wp_gsNil, wp_gsCons, wp_gTup, wp_gSub, wp_iAny, wp_iSeq, wp_iTup, wp_iStr, wp_iRange1, wp_iRange2, wp_iZip, wS_fld, wp_make, seqQ, rtQ, turnQ, List.getElem?_cons_zero, List.getElem?_cons_succ, List.set_cons_zero, List.set_cons_succ, wipeD, if_true, if_false, Bool.false_eq_true, Bool.true_eq_false, reduceIte, w_add, w_iadd, w_iaddS, w_addS, w_addL, w_addT, w_sub, w_mul, w_mod, w_fdiv, w_pow, w_neg, w_lt, w_le, w_gt, w_ge, w_eqI, w_neI, w_eqT, w_neT, w_isN, w_isnotN, w_isB, w_isNB, w_len, w_lenT, w_int, w_intB, w_abs, w_min, w_max, w_tup, w_lst, w_new, w_list, w_listN, w_ix, w_ixT, w_ixD, w_inT1, w_notinT1, w_inT2, w_notinT2, w_inT3, w_notinT3, w_inT4, w_notinT4, w_inT5, w_notinT5, w_inT6, w_notinT6, w_inT7, w_notinT7, w_inT8, w_notinT8, w_sl1, at_0, at_1, at_2, at_3, at_4, at_5, hasTy_list, hasTy_str, isNonD, flatD, sEq_T, List.all_cons, List.all_nil, List.any_cons, List.any_nil, Bool.and_true, Bool.true_and, Bool.or_false, Bool.or_true, Bool.true_or, Bool.false_or, Bool.not_true, Bool.not_false, List.length_cons, List.length_nil, Nat.zero_add, Nat.reduceAdd, line_eq, true_and, and_true, String.reduceBEq, Int.reduceBEq, decide_true, decide_false, Int.reduceLT, Int.reduceLE, beq_self_eq_true, Nat.reduceLeDiff]
      simp only [ord_ix ho]
      unfold Ord.d
      simp only [wp_ok, wp_bad, wp_bind, wS_ok, wS_bad, wS_cons, wS_nil, wS_pass, wS_break, wS_cont, wS_never, wS_set, wS_expr, wS_ret, wS_retN, wS_if, wS_asg, wS_aug, wS_for, wp_lc, wp_m1, wp_m2, wp_mN, wp_aNil, wp_aCons, wp_mC, wp_var, wp_if, wp_and, wp_or, wp_not, wp_chain, wp_mt, wp_get, wp_isi, wp_fld, wp_sl, wp_oNone, wp_oSome, wp_tBool, wp_tTru, wp_tNot, wp_tAnd, wp_tOr, wp_tAll, wp_gSlot, wp_gsNil, wp_gsCons, wp_gTup, wp_gSub, wp_iAny, wp_iSeq, wp_iTup, wp_iStr, wp_iRange1, wp_iRange2, wp_iZip, wS_fld, wp_make, seqQ, rtQ, turnQ, List.getElem?_cons_zero, List.getElem?_cons_succ, List.set_cons_zero, List.set_cons_succ, wipeD, if_true, if_false, Bool.false_eq_true, Bool.true_eq_false, reduceIte, w_add, w_iadd, w_iaddS, w_addS, w_addL, w_addT, w_sub, w_mul, w_mod, w_fdiv, w_pow, w_neg, w_lt, w_le, w_gt, w_ge, w_eqI, w_neI, w_eqT, w_neT, w_isN, w_isnotN, w_isB, w_isNB, w_len, w_lenT, w_int, w_intB, w_abs, w_min, w_max, w_tup, w_lst, w_new, w_list, w_listN, w_ix, w_ixT, w_ixD, w_inT1, w_notinT1, w_inT2, w_notinT2, w_inT3, w_notinT3, w_inT4, w_notinT4, w_inT5, w_notinT5, w_inT6, w_notinT6, w_inT7, w_notinT7, w_inT8, w_notinT8, w_sl1, at_0, at_1, at_2, at_3, at_4, at_5, hasTy_list, hasTy_str, isNonD, flatD, sEq_T, List.all_cons, List.all_nil, List.any_cons, List.any_nil, Bool.and_true, Bool.true_and, Bool.or_false, Bool.or_true, Bool.true_or, Bool.false_or, Bool.not_true, Bool.not_false, List.length_cons, List.length_nil, Nat.zero_add, Nat.reduceAdd, line_eq, true_and, and_true, String.reduceBEq, Int.reduceBEq, decide_true, decide_false, Int.reduceLT, Int.reduceLE, beq_self_eq_true, Nat.reduceLeDiff]
      refine ⟨hasTy_ref (xs := p.map .int) rfl, ?_⟩
      rw [w_append (xs := p.map .int) rfl]
      refine ⟨Nat.lt_of_le_of_lt (show (p.map D.int).length ≤ 33 by rw [List.length_map]; exact hp) (by decide), ?_⟩
      simp only [List.set_cons_succ, List.set_cons_zero, ep]
      rw [reg_ix (r := r) rfl hbd hob]
      exact hQ _ _ (fzQ_three (i := some (get r a)) hlow k1)
    | lose =>
      simp only [wp_ok, wp_bad, wp_bind, wS_ok, wS_bad, wS_cons, wS_nil, wS_pass, wS_break, wS_cont, wS_never, wS_set, wS_expr, wS_ret, wS_retN, wS_if, wS_asg, wS_aug, wS_for, wp_lc, wp_m1, wp_m2, wp_mN, wp_aNil, wp_aCons, wp_mC, wp_var, wp_if, wp_and, wp_or, wp_not, wp_chain, wp_mt, wp_get, wp_isi, wp_fld, wp_sl, wp_oNone, wp_oSome, wp_tBool, wp_tTru, wp_tNot, wp_tAnd, wp_tOr, wp_tAll, wp_gSlot, wp_gsNil, wp_gsCons, wp_gTup, wp_gSub, wp_iAny, wp_iSeq, wp_iTup, wp_iStr, wp_iRange1, wp_iRange2, wp_iZip, wS_fld, wp_make, seqQ, rtQ, turnQ, List.getElem?_cons_zero, List.getElem?_cons_succ, List.set_cons_zero, List.set_cons_succ, wipeD, if_true, if_false, Bool.false_eq_true, Bool.true_eq_false, reduceIte, w_add, w_iadd, w_iaddS, w_addS, w_addL, w_addT, w_sub, w_mul, w_mod, w_fdiv, w_pow, w_neg, w_lt, w_le, w_gt, w_ge, w_eqI, w_neI, w_eqT, w_neT, w_isN, w_isnotN, w_isB, w_isNB, w_len, w_lenT, w_int, w_intB, w_abs, w_min, w_max, w_tup, w_lst, w_new, w_list, w_listN, w_ix, w_ixT, w_ixD, w_inT1, w_notinT1, w_inT2, w_notinT2, w_inT3, w_notinT3, w_inT4, w_notinT4, w_inT5, w_notinT5, w_inT6, w_notinT6, w_inT7, w_notinT7, w_inT8, w_notinT8, w_sl1, at_0, at_1, at_2, at_3, at_4, at_5, hasTy_list, hasTy_str, isNonD, flatD, sEq_T, List.all_cons, List.all_nil, List.any_cons, List.any_nil, Bool.and_true, Bool.true_and, Bool.or_false, Bool.or_true, Bool.true_or, Bool.false_or, Bool.not_true, Bool.not_false, List.length_cons, List.length_nil, Nat.zero_add, Nat.reduceAdd, line_eq, true_and, and_true, String.reduceBEq, Int.reduceBEq, decide_true, decide_false, Int.reduceLT, Int.reduceLE, beq_self_eq_true, Nat.reduceLeDiff]
      rw [hlen, hge]
      simp only [wp_ok, wp_bad, wp_bind, wS_ok, wS_bad, wS_cons, wS_nil, wS_pass, wS_break, wS_cont, wS_never, wS_set, wS_expr, wS_ret, wS_retN, wS_if, wS_asg, wS_aug, wS_for, wp_lc, wp_m1, wp_m2, wp_mN, wp_aNil, wp_aCons, wp_mC, wp_var, wp_if, wp_and, wp_or, wp_not, wp_chain, wp_mt, wp_get, wp_isi, wp_fld, wp_sl, wp_oNone, wp_oSome, wp_tBool, wp_tTru, wp_tNot, wp_tAnd, wp_tOr, wp_tAll, wp_gSlot, wp_gsNil, wp_gsCons, wp_gTup, wp_gSub, wp_iAny, wp_iSeq, wp_iTup, wp_iStr, wp_iRange1, wp_iRange2, wp_iZip, wS_fld, wp_make, seqQ, rtQ, turnQ, List.getElem?_cons_zero, List.getElem?_cons_succ, List.set_cons_zero, List.set_cons_succ, wipeD, if_true, if_false, Bool.false_eq_true, Bool.true_eq_false, reduceIte, w_add, w_iadd, w_iaddS, w_addS, w_addL, w_addT, w_sub, w_mul, w_mod, w_fdiv, w_pow, w_neg, w_lt, w_le, w_gt, w_ge, w_eqI, w_neI, w_eqT, w_neT, w_isN, w_isnotN, w_isB, w_isNB, w_len, w_lenT, w_int, w_intB, w_abs, w_min, w_max, w_tup, w_lst, w_new, w_list, w_listN, w_ix, w_ixT, w_ixD, w_inT1, w_notinT1, w_inT2, w_notinT2, w_inT3, w_notinT3, w_inT4, w_notinT4, w_inT5, w_notinT5, w_inT6, w_notinT6, w_inT7, w_notinT7, w_inT8, w_notinT8, w_sl1, at_0, at_1, at_2, at_3, at_4, at_5, hasTy_list, hasTy_str, isNonD, flatD, sEq_T, List.all_cons, List.all_nil, List.any_cons, List.any_nil, Bool.and_true, Bool.true_and, Bool.or_false, Bool.or_true, Bool.true_or, Bool.false_or, Bool.not_true, Bool.not_false, List.length_cons, List.length_nil, Nat.zero_add, Nat.reduceAdd, line_eq, true_and, and_true, String.reduceBEq, Int.reduceBEq, decide_true, decide_false, Int.reduceLT, Int.reduceLE, beq_self_eq_true, Nat.reduceLeDiff]
      simp only [ord_ix ho]
      unfold Ord.d
      simp only [wp_ok, wp_bad, wp_bind, wS_ok, wS_bad, wS_cons, wS_nil, wS_pass, wS_break, wS_cont, wS_never, wS_set, wS_expr, wS_ret, wS_retN, wS_if, wS_asg, wS_aug, wS_for, wp_lc, wp_m1, wp_m2, wp_mN, wp_aNil, wp_aCons, wp_mC, wp_var, wp_if, wp_and, wp_or, wp_not, wp_chain, wp_mt, wp_get, wp_isi, wp_fld, wp_sl, wp_oNone, wp_oSome, wp_tBool, wp_tTru, wp_tNot, wp_tAnd, wp_tOr, wp_tAll, wp_gSlot, wp_gsNil, wp_gsCons, wp_gTup, wp_gSub, wp_iAny, wp_iSeq, wp_iTup, wp_iStr, wp_iRange1, wp_iRange2, wp_iZip, wS_fld, wp_make, seqQ, rtQ, turnQ, List.getElem?_cons_zero, List.getElem?_cons_succ, List.set_cons_zero, List.set_cons_succ, wipeD, if_true, if_false, Bool.false_eq_true, Bool.true_eq_false, reduceIte, w_add, w_iadd, w_iaddS, w_addS, w_addL, w_addT, w_sub, w_mul, w_mod, w_fdiv, w_pow, w_neg, w_lt, w_le, w_gt, w_ge, w_eqI, w_neI, w_eqT, w_neT, w_isN, w_isnotN, w_isB, w_isNB, w_len, w_lenT, w_int, w_intB, w_abs, w_min, w_max, w_tup, w_lst, w_new, w_list, w_listN, w_ix, w_ixT, w_ixD, w_inT1, w_notinT1, w_inT2, w_notinT2, w_inT3, w_notinT3, w_inT4, w_notinT4, w_inT5, w_notinT5, w_inT6, w_notinT6, w_inT7, w_notinT7, w_inT8, w_notinT8, w_sl1, at_0, at_1, at_2, at_3, at_4, at_5, hasTy_list, hasTy_str, isNonD, flatD, sEq_T, List.all_cons, List.all_nil, List.any_cons, List.any_nil, Bool.and_true, Bool.true_and, Bool.or_false, Bool.or_true, Bool.true_or, Bool.false_or, Bool.not_true, Bool.not_false, List.length_cons, List.length_nil, Nat.zero_add, Nat.reduceAdd, line_eq, true_and, and_true, String.reduceBEq, Int.reduceBEq, decide_true, decide_false, Int.reduceLT, Int.reduceLE, beq_self_eq_true, Nat.reduceLeDiff]
      refine ⟨hasTy_ref (xs := p.map .int) rfl, ?_⟩
      rw [w_append (xs := p.map .int) rfl]
      refine ⟨Nat.lt_of_le_of_lt (show (p.map D.int).length ≤ 33 by rw [List.length_map]; exact hp) (by decide), ?_⟩
      simp only [List.set_cons_succ, List.set_cons_zero, ep]
      exact hQ _ _ (fzQ_three (i := none) hlow k1)
    | _ => cases hon
  · have hge : decide ((at_ : Int) ≥ (os.length : Nat)) = true := decide_eq_true (by omega)
    have k1 := k 0
    rw [exec_end (by omega)] at k1
    simp only [wp_ok, wp_bad, wp_bind, wS_ok, wS_bad, wS_cons, wS_nil, wS_pass, wS_break, wS_cont, wS_never, wS_set, wS_expr, wS_ret, wS_retN, wS_if, wS_asg, wS_aug, wS_for, wp_lc, wp_m1, wp_m2, wp_mN, wp_aNil, wp_aCons, wp_mC, wp_var, wp_if, wp_and, wp_or, wp_not, wp_chain, wp_mt, wp_get, wp_isi, wp_fld, wp_sl, wp_oNone, wp_oSome, wp_tBool, wp_tTru, wp_tNot, wp_tAnd, wp_tOr, wp_tAll, wp_gSlot, wp_gsNil, wp_gsCons, wp_gTup, wp_gSub, wp_iAny, wp_iSeq, wp_iTup, wp_iStr, wp_iRange1, wp_iRange2, wp_iZip, wS_fld, wp_make, seqQ, rtQ, turnQ, List.getElem?_cons_zero, List.getElem?_cons_succ, List.set_cons_zero, List.set_cons_succ, wipeD, if_true, if_false, Bool.false_eq_true, Bool.true_eq_false, reduceIte, w_add, w_iadd, w_iaddS, w_addS, w_addL, w_addT, w_sub, w_mul, w_mod, w_fdiv, w_pow, w_neg, w_lt, w_le, w_gt, w_ge, w_eqI, w_neI, w_eqT, w_neT, w_isN, w_isnotN, w_isB, w_isNB, w_len, w_lenT, w_int, w_intB, w_abs, w_min, w_max, w_tup, w_lst, w_new, w_list, w_listN, w_ix, w_ixT, w_ixD, w_inT1, w_notinT1, w_inT2, w_notinT2, w_inT3, w_notinT3, w_inT4, w_notinT4, w_inT5, w_notinT5, w_inT6, w_notinT6, w_inT7, w_notinT7, w_inT8, w_notinT8, w_sl1, at_0, at_1, at_2, at_3, at_4, at_5, hasTy_list, hasTy_str, isNonD, flatD, sEq_T, List.all_cons, List.all_nil, List.any_cons, List.any_nil, Bool.and_true, Bool.true_and, Bool.or_false, Bool.or_true, Bool.true_or, Bool.false_or, Bool.not_true, Bool.not_false, List.length_cons, List.length_nil, Nat.zero_add, Nat.reduceAdd, line_eq, true_and, and_true, String.reduceBEq, Int.reduceBEq, decide_true, decide_false, Int.reduceLT, Int.reduceLE, beq_self_eq_true, Nat.reduceLeDiff]
    rw [hlen, hge]
    simp only [wp_ok, wp_bad, wp_bind, wS_ok, wS_bad, wS_cons, wS_nil, wS_pass, wS_break, wS_cont, wS_never, wS_set, wS_expr, wS_ret, wS_retN, wS_if, wS_asg, wS_aug, wS_for, wp_lc, wp_m1, wp_m2, wp_mN, wp_aNil, wp_aCons, wp_mC, wp_var, wp_if, wp_and, wp_or, wp_not, wp_chain, wp_mt, wp_get, wp_isi, wp_fld, wp_sl, wp_oNone, wp_oSome, wp_tBool, wp_tTru, wp_tNot, wp_tAnd, wp_tOr, wp_tAll, wp_gSlot, wp_gsNil, wp_gsCons, wp_gTup, wp_gSub, wp_iAny, wp_iSeq, wp_iTup, wp_iStr, wp_iRange1, wp_iRange2, wp_iZip, wS_fld, wp_make, seqQ, rtQ, turnQ, List.getElem?_cons_zero, List.getElem?_cons_succ, List.set_cons_zero, List.set_cons_succ, wipeD, if_true, if_false, Bool.false_eq_true, Bool.true_eq_false, reduceIte, w_add, w_iadd, w_iaddS, w_addS, w_addL, w_addT, w_sub, w_mul, w_mod, w_fdiv, w_pow, w_neg, w_lt, w_le, w_gt, w_ge, w_eqI, w_neI, w_eqT, w_neT, w_isN, w_isnotN, w_isB, w_isNB, w_len, w_lenT, w_int, w_intB, w_abs, w_min, w_max, w_tup, w_lst, w_new, w_list, w_listN, w_ix, w_ixT, w_ixD, w_inT1, w_notinT1, w_inT2, w_notinT2, w_inT3, w_notinT3, w_inT4, w_notinT4, w_inT5, w_notinT5, w_inT6, w_notinT6, w_inT7, w_notinT7, w_inT8, w_notinT8, w_sl1, at_0, at_1, at_2, at_3, at_4, at_5, hasTy_list, hasTy_str, isNonD, flatD, sEq_T, List.all_cons, List.all_nil, List.any_cons, List.any_nil, Bool.and_true, Bool.true_and, Bool.or_false, Bool.or_true, Bool.true_or, Bool.false_or, Bool.not_true, Bool.not_false, List.length_cons, List.length_nil, Nat.zero_add, Nat.reduceAdd, line_eq, true_and, and_true, String.reduceBEq, Int.reduceBEq, decide_true, decide_false, Int.reduceLT, Int.reduceLE, beq_self_eq_true, Nat.reduceLeDiff]
    exact hQ _ _ (fzQ_three (i := none) hlow k1)
theorem run_wp (hg : Good os) (hn : n.natAbs ≤ 10 ^ 30) (hlow : Low A B) (k : ∀ ts, Q (.tup [opt (exec os n os.length 0 [n, 0, 0, 0, 0, 0, 0, 0] []).1, .lst ((exec os n os.length 0 [n, 0, 0, 0, 0, 0, 0, 0] []).2.map .int), .lst (notes ts)]) [A, B]) :
    wp (f_law_run [.lst (os.map Ord.d), .int n] [A, B]) Q := by
  refine wp_mkFz ((wp_fn (n := 2) (tot := 10) (m := m_law_run) rfl).mpr ?_)
  show wS (m_law_run [some (.lst (os.map Ord.d)), some (.int n), none, none, none, none, none, none, none, none] _) _
  have hlen : (os.map Ord.d).length = os.length := List.length_map _
  have h33 := hg.1
  show wS (ssCons _ (ssCons _ (ssCons _ (ssCons _ (ssCons (sFor (iRange1 (mN dLen (aCons (mVar 0) aNil))) (gSlot 6) run_b) _))))  _ _) _
  simp only [wS_cons, wS_set, wp_mN, wp_aCons, wp_aNil, wp_var, wp_mC, w_new, List.getElem?_cons_zero, List.getElem?_cons_succ, List.set_cons_succ, List.set_cons_zero, seqQ, List.length_cons, List.length_nil, List.cons_append, List.nil_append]
  refine ⟨by decide, by decide, by decide, ?_⟩
  rw [wS_for, wp_iRange1, wp_mN, wp_aCons, wp_var]
  simp only [List.getElem?_cons_zero, wp_aNil, w_len, hlen]
  refine ⟨⟨by omega, by omega⟩, ?_⟩
  let E := exec os n os.length 0 [n, 0, 0, 0, 0, 0, 0, 0] []
  let I : List D → Rho → S → Prop := fun xs ρ s => ∃ (at_ : Nat) (r p : List Int) (ts : List (Int × Int)) (v6 v7 v8 v9 : Option D),
    ρ = [some (.lst (os.map Ord.d)), some (.int n), some (.ref 2), some (.ref 3), some (.ref 4), some (.int at_), v6, v7, v8, v9] ∧ s = [A, B, .lst (r.map .int), .lst (p.map .int), .lst (notes ts)] ∧ os.length ≤ at_ + xs.length ∧
    Bd at_ r ∧ p.length ≤ at_ ∧ ts.length ≤ at_ ∧ p.length ≤ 33 ∧ ∀ f, os.length ≤ at_ + f → exec os n f at_ r p = E
  refine wS_forN I ?_ ?_ _ _ _ ⟨0, [n, 0, 0, 0, 0, 0, 0, 0], [], [], none, none, none, none, rfl, rfl, by unfold rng; simp, start_bd hn, by simp, by simp, by simp, ?_⟩
  · rintro ρ s ⟨at_, r, p, ts, v6, v7, v8, v9, rfl, rfl, hl, hb, hp, ht, hp3, he⟩
    have e0 := he 0 hl
    rw [exec] at e0
    have kk := k ts
    rw [show exec os n os.length 0 [n, 0, 0, 0, 0, 0, 0, 0] [] = (none, p) from e0.symm] at kk
    simp only [wp_ok, wp_bad, wp_bind, wS_ok, wS_bad, wS_cons, wS_nil, wS_pass, wS_break, wS_cont, wS_never, wS_set, wS_expr, wS_ret, wS_retN, wS_if, wS_asg, wS_aug, wS_for, wp_lc, wp_m1, wp_m2, wp_mN, wp_aNil, wp_aCons, wp_mC, wp_var, wp_if, wp_and, wp_or, wp_not, wp_chain, wp_mt, wp_get, wp_isi, wp_fld, wp_sl, wp_oNone, wp_oSome, wp_tBool, wp_tTru, wp_tNot, wp_tAnd, wp_tOr, wp_tAll, wp_gSlot, wp_gsNil, wp_gsCons, wp_gTup, wp_gSub, wp_iAny, wp_iSeq, wp_iTup, wp_iStr, wp_iRange1, wp_iRange2, wp_iZip, wS_fld, wp_make, seqQ, rtQ, turnQ, List.getElem?_cons_zero, List.getElem?_cons_succ, List.set_cons_zero, List.set_cons_succ, wipeD, if_true, if_false, Bool.false_eq_true, Bool.true_eq_false, reduceIte, w_add, w_iadd, w_iaddS, w_addS, w_addL, w_addT, w_sub, w_mul, w_mod, w_fdiv, w_pow, w_neg, w_lt, w_le, w_gt, w_ge, w_eqI, w_neI, w_eqT, w_neT, w_isN, w_isnotN, w_isB, w_isNB, w_len, w_lenT, w_int, w_intB, w_abs, w_min, w_max, w_tup, w_lst, w_new, w_list, w_listN, w_ix, w_ixT, w_ixD, w_inT1, w_notinT1, w_inT2, w_notinT2, w_inT3, w_notinT3, w_inT4, w_notinT4, w_inT5, w_notinT5, w_inT6, w_notinT6, w_inT7, w_notinT7, w_inT8, w_notinT8, w_sl1, at_0, at_1, at_2, at_3, at_4, at_5, hasTy_list, hasTy_str, isNonD, flatD, sEq_T, List.all_cons, List.all_nil, List.any_cons, List.any_nil, Bool.and_true, Bool.true_and, Bool.or_false, Bool.or_true, Bool.true_or, Bool.false_or, Bool.not_true, Bool.not_false, List.length_cons, List.length_nil, Nat.zero_add, Nat.reduceAdd, line_eq, true_and, and_true, String.reduceBEq, Int.reduceBEq, decide_true, decide_false, Int.reduceLT, Int.reduceLE, beq_self_eq_true, Nat.reduceLeDiff]
    exact fzQ_three (i := none) hlow kk
  · rintro x xs ρ s ⟨at_, r, p, ts, v6, v7, v8, v9, rfl, rfl, hl, hb, hp, ht, hp3, he⟩
    simp only [List.length_cons] at hl
    rw [wp_gSlot]
    simp only [List.set_cons_succ, List.set_cons_zero]
    by_cases hon : ∃ o, os[at_]? = some o ∧ o.on = true
    · obtain ⟨o, ho, hon⟩ := hon
      have hok := hg.2 at_ o ho
      have hlt : at_ < os.length := (List.getElem?_eq_some_iff.mp ho).1
      refine run_turn (f := 0) hg.1 hn ho hok hb hp ht hon fun ts' v6 v7 v8 v9 hts => ?_
      have gt := to_gt at_ r o
      refine ⟨o.to at_ r, o.set n r, p ++ [(at_ : Int)], ts', v6, v7, v8, v9, rfl, rfl, by omega, hb.set hn hok, by simp; omega, by omega, by simp; omega, fun f hf => ?_⟩
      have h2 := he (os.length + 1) (by omega)
      rw [exec_on ho hon] at h2
      rw [← h2]
      exact exec_fuel _ _ _ _ _ hf (by omega)
    · refine run_end (f := 0) (Q := Q) hlow hb (fun o ho => ?_) hp3 (fun f => ?_) fun d s h => h
      · refine ⟨?_, _, hg.2 at_ o ho⟩
        cases h : o.on with
        | false => rfl
        | true => exact absurd ⟨o, ho, h⟩ hon
      · have h1 : exec os n (f + 1) at_ r p = E := by
          have h2 := he (os.length + 1) (by omega)
          rw [← h2]
          cases h : os[at_]? with
          | none => rw [exec, exec, h]
          | some o =>
            have : o.on = false := by
              cases h3 : o.on with
              | false => rfl
              | true => exact absurd ⟨o, h, h3⟩ hon
            rw [exec, exec, h]
            cases o <;> first
              | rfl
              | cases this
        rw [h1]
        exact k ts
  · intro f hf
    exact exec_fuel _ _ _ _ _ hf (by omega)
end
end
end
end K00
namespace K00
open PySem PySem.Spec PyProof.Rows L2 Pm
noncomputable section
section
variable {A B : O} {os : List Ord} {n : Int} {Q : D → S → Prop} {s t : S}
theorem exec_len : ∀ (f at_ : Nat) (r p : List Int), (exec os n f at_ r p).2.length ≤ p.length + f
  | 0, at_, r, p => by rw [exec]; exact Nat.le_refl _
  | f + 1, at_, r, p => by
    cases ho : os[at_]? with
    | none => rw [exec, ho]; exact Nat.le_add_right _ _
    | some o =>
      cases hon : o.on with
      | true =>
        rw [exec_on ho hon]
        have := exec_len f (o.to at_ r) (o.set n r) (p ++ [(at_ : Int)])
        simp only [List.length_append, List.length_singleton] at this
        omega
      | false =>
        rw [exec, ho]
        cases o <;> first
          | (simp; done)
          | cases hon
/-- what a recipe gives at a number -/
def res (os : List Ord) (n : Int) : Option Int × List Int := exec os n os.length 0 [n, 0, 0, 0, 0, 0, 0, 0] []
def code (n : Int) (i : Option Int) : Option Int := if n < 0 then none else match i with
  | none => none
  | some v => if v < 0 then none else some v
theorem image_wp (hg : Good os) (hn : n.natAbs ≤ 10 ^ 30) (hlow : Low A B) (k : Q (opt (res os n).1) [A, B]) : wp (f_number_image [rec_ os, .int n] [A, B]) Q := by
  refine (wp_fn (n := 2) (tot := 2) (m := m_number_image) rfl).mpr ?_
  show wS (m_number_image [some (rec_ os), some (.int n)] _) _
  unfold m_number_image
  simp only [wp_ok, wp_bad, wp_bind, wS_ok, wS_bad, wS_cons, wS_nil, wS_pass, wS_break, wS_cont, wS_never, wS_set, wS_expr, wS_ret, wS_retN, wS_if, wS_asg, wS_aug, wS_for, wp_lc, wp_m1, wp_m2, wp_mN, wp_aNil, wp_aCons, wp_mC, wp_var, wp_if, wp_and, wp_or, wp_not, wp_chain, wp_mt, wp_get, wp_isi, wp_fld, wp_sl, wp_oNone, wp_oSome, wp_tBool, wp_tTru, wp_tNot, wp_tAnd, wp_tOr, wp_tAll, wp_gSlot, wp_gsNil, wp_gsCons, wp_gTup, wp_gSub, wp_iAny, wp_iSeq, wp_iTup, wp_iStr, wp_iRange1, wp_iRange2, wp_iZip, wS_fld, wp_make, seqQ, rtQ, turnQ, List.getElem?_cons_zero, List.getElem?_cons_succ, List.set_cons_zero, List.set_cons_succ, wipeD, if_true, if_false, Bool.false_eq_true, Bool.true_eq_false, reduceIte, w_add, w_iadd, w_iaddS, w_addS, w_addL, w_addT, w_sub, w_mul, w_mod, w_fdiv, w_pow, w_neg, w_lt, w_le, w_gt, w_ge, w_eqI, w_neI, w_eqT, w_neT, w_isN, w_isnotN, w_isB, w_isNB, w_len, w_lenT, w_int, w_intB, w_abs, w_min, w_max, w_tup, w_lst, w_new, w_list, w_listN, w_ix, w_ixT, w_ixD, w_inT1, w_notinT1, w_inT2, w_notinT2, w_inT3, w_notinT3, w_inT4, w_notinT4, w_inT5, w_notinT5, w_inT6, w_notinT6, w_inT7, w_notinT7, w_inT8, w_notinT8, w_sl1, at_0, at_1, at_2, at_3, at_4, at_5, hasTy_list, hasTy_str, isNonD, flatD, sEq_T, List.all_cons, List.all_nil, List.any_cons, List.any_nil, Bool.and_true, Bool.true_and, Bool.or_false, Bool.or_true, Bool.true_or, Bool.false_or, Bool.not_true, Bool.not_false, List.length_cons, List.length_nil, Nat.zero_add, Nat.reduceAdd, line_eq, true_and, and_true, String.reduceBEq, Int.reduceBEq, decide_true, decide_false, Int.reduceLT, Int.reduceLE, beq_self_eq_true, Nat.reduceLeDiff]
  refine execute_wp hg hn hlow ?_
  rw [w_ixT, at_0]
  exact k
theorem path_wp (hg : Good os) (hn : n.natAbs ≤ 10 ^ 30) (hlow : Low A B) (k : Q (.lst ((res os n).2.map .int)) [A, B]) : wp (f_number_path [rec_ os, .int n] [A, B]) Q := by
  refine (wp_fn (n := 2) (tot := 2) (m := m_number_path) rfl).mpr ?_
  show wS (m_number_path [some (rec_ os), some (.int n)] _) _
  unfold m_number_path
  simp only [wp_ok, wp_bad, wp_bind, wS_ok, wS_bad, wS_cons, wS_nil, wS_pass, wS_break, wS_cont, wS_never, wS_set, wS_expr, wS_ret, wS_retN, wS_if, wS_asg, wS_aug, wS_for, wp_lc, wp_m1, wp_m2, wp_mN, wp_aNil, wp_aCons, wp_mC, wp_var, wp_if, wp_and, wp_or, wp_not, wp_chain, wp_mt, wp_get, wp_isi, wp_fld, wp_sl, wp_oNone, wp_oSome, wp_tBool, wp_tTru, wp_tNot, wp_tAnd, wp_tOr, wp_tAll, wp_gSlot, wp_gsNil, wp_gsCons, wp_gTup, wp_gSub, wp_iAny, wp_iSeq, wp_iTup, wp_iStr, wp_iRange1, wp_iRange2, wp_iZip, wS_fld, wp_make, seqQ, rtQ, turnQ, List.getElem?_cons_zero, List.getElem?_cons_succ, List.set_cons_zero, List.set_cons_succ, wipeD, if_true, if_false, Bool.false_eq_true, Bool.true_eq_false, reduceIte, w_add, w_iadd, w_iaddS, w_addS, w_addL, w_addT, w_sub, w_mul, w_mod, w_fdiv, w_pow, w_neg, w_lt, w_le, w_gt, w_ge, w_eqI, w_neI, w_eqT, w_neT, w_isN, w_isnotN, w_isB, w_isNB, w_len, w_lenT, w_int, w_intB, w_abs, w_min, w_max, w_tup, w_lst, w_new, w_list, w_listN, w_ix, w_ixT, w_ixD, w_inT1, w_notinT1, w_inT2, w_notinT2, w_inT3, w_notinT3, w_inT4, w_notinT4, w_inT5, w_notinT5, w_inT6, w_notinT6, w_inT7, w_notinT7, w_inT8, w_notinT8, w_sl1, at_0, at_1, at_2, at_3, at_4, at_5, hasTy_list, hasTy_str, isNonD, flatD, sEq_T, List.all_cons, List.all_nil, List.any_cons, List.any_nil, Bool.and_true, Bool.true_and, Bool.or_false, Bool.or_true, Bool.true_or, Bool.false_or, Bool.not_true, Bool.not_false, List.length_cons, List.length_nil, Nat.zero_add, Nat.reduceAdd, line_eq, true_and, and_true, String.reduceBEq, Int.reduceBEq, decide_true, decide_false, Int.reduceLT, Int.reduceLE, beq_self_eq_true, Nat.reduceLeDiff]
  refine execute_wp hg hn hlow ?_
  rw [w_ixT, at_1]
  exact k
theorem code_wp (hg : Good os) (hn : n.natAbs ≤ 10 ^ 30) (hlow : Low A B) (k : Q (opt (code n (res os n).1)) [A, B]) : wp (f_code_image [rec_ os, .int n] [A, B]) Q := by
  refine (wp_fn (n := 2) (tot := 3) (m := m_code_image) rfl).mpr ?_
  show wS (m_code_image [some (rec_ os), some (.int n), none] _) _
  unfold m_code_image
  simp only [wp_ok, wp_bad, wp_bind, wS_ok, wS_bad, wS_cons, wS_nil, wS_pass, wS_break, wS_cont, wS_never, wS_set, wS_expr, wS_ret, wS_retN, wS_if, wS_asg, wS_aug, wS_for, wp_lc, wp_m1, wp_m2, wp_mN, wp_aNil, wp_aCons, wp_mC, wp_var, wp_if, wp_and, wp_or, wp_not, wp_chain, wp_mt, wp_get, wp_isi, wp_fld, wp_sl, wp_oNone, wp_oSome, wp_tBool, wp_tTru, wp_tNot, wp_tAnd, wp_tOr, wp_tAll, wp_gSlot, wp_gsNil, wp_gsCons, wp_gTup, wp_gSub, wp_iAny, wp_iSeq, wp_iTup, wp_iStr, wp_iRange1, wp_iRange2, wp_iZip, wS_fld, wp_make, seqQ, rtQ, turnQ, List.getElem?_cons_zero, List.getElem?_cons_succ, List.set_cons_zero, List.set_cons_succ, wipeD, if_true, if_false, Bool.false_eq_true, Bool.true_eq_false, reduceIte, w_add, w_iadd, w_iaddS, w_addS, w_addL, w_addT, w_sub, w_mul, w_mod, w_fdiv, w_pow, w_neg, w_lt, w_le, w_gt, w_ge, w_eqI, w_neI, w_eqT, w_neT, w_isN, w_isnotN, w_isB, w_isNB, w_len, w_lenT, w_int, w_intB, w_abs, w_min, w_max, w_tup, w_lst, w_new, w_list, w_listN, w_ix, w_ixT, w_ixD, w_inT1, w_notinT1, w_inT2, w_notinT2, w_inT3, w_notinT3, w_inT4, w_notinT4, w_inT5, w_notinT5, w_inT6, w_notinT6, w_inT7, w_notinT7, w_inT8, w_notinT8, w_sl1, at_0, at_1, at_2, at_3, at_4, at_5, hasTy_list, hasTy_str, isNonD, flatD, sEq_T, List.all_cons, List.all_nil, List.any_cons, List.any_nil, Bool.and_true, Bool.true_and, Bool.or_false, Bool.or_true, Bool.true_or, Bool.false_or, Bool.not_true, Bool.not_false, List.length_cons, List.length_nil, Nat.zero_add, Nat.reduceAdd, line_eq, true_and, and_true, String.reduceBEq, Int.reduceBEq, decide_true, decide_false, Int.reduceLT, Int.reduceLE, beq_self_eq_true, Nat.reduceLeDiff]
  unfold code at k
  by_cases hn0 : n < 0
  · rw [if_pos hn0] at k
    rw [if_pos (decide_eq_true hn0)]
    exact k
  · rw [if_neg hn0] at k
    rw [if_neg (by simpa using hn0)]
    refine image_wp hg hn hlow ?_
    cases hi : (res os n).1 with
    | none =>
      rw [hi] at k
      unfold opt
      simp only [wp_ok, wp_bad, wp_bind, wS_ok, wS_bad, wS_cons, wS_nil, wS_pass, wS_break, wS_cont, wS_never, wS_set, wS_expr, wS_ret, wS_retN, wS_if, wS_asg, wS_aug, wS_for, wp_lc, wp_m1, wp_m2, wp_mN, wp_aNil, wp_aCons, wp_mC, wp_var, wp_if, wp_and, wp_or, wp_not, wp_chain, wp_mt, wp_get, wp_isi, wp_fld, wp_sl, wp_oNone, wp_oSome, wp_tBool, wp_tTru, wp_tNot, wp_tAnd, wp_tOr, wp_tAll, wp_gSlot, wp_gsNil, wp_gsCons, wp_gTup, wp_gSub, wp_iAny, wp_iSeq, wp_iTup, wp_iStr, wp_iRange1, wp_iRange2, wp_iZip, wS_fld, wp_make, seqQ, rtQ, turnQ, List.getElem?_cons_zero, List.getElem?_cons_succ, List.set_cons_zero, List.set_cons_succ, wipeD, if_true, if_false, Bool.false_eq_true, Bool.true_eq_false, reduceIte, w_add, w_iadd, w_iaddS, w_addS, w_addL, w_addT, w_sub, w_mul, w_mod, w_fdiv, w_pow, w_neg, w_lt, w_le, w_gt, w_ge, w_eqI, w_neI, w_eqT, w_neT, w_isN, w_isnotN, w_isB, w_isNB, w_len, w_lenT, w_int, w_intB, w_abs, w_min, w_max, w_tup, w_lst, w_new, w_list, w_listN, w_ix, w_ixT, w_ixD, w_inT1, w_notinT1, w_inT2, w_notinT2, w_inT3, w_notinT3, w_inT4, w_notinT4, w_inT5, w_notinT5, w_inT6, w_notinT6, w_inT7, w_notinT7, w_inT8, w_notinT8, w_sl1, at_0, at_1, at_2, at_3, at_4, at_5, hasTy_list, hasTy_str, isNonD, flatD, sEq_T, List.all_cons, List.all_nil, List.any_cons, List.any_nil, Bool.and_true, Bool.true_and, Bool.or_false, Bool.or_true, Bool.true_or, Bool.false_or, Bool.not_true, Bool.not_false, List.length_cons, List.length_nil, Nat.zero_add, Nat.reduceAdd, line_eq, true_and, and_true, String.reduceBEq, Int.reduceBEq, decide_true, decide_false, Int.reduceLT, Int.reduceLE, beq_self_eq_true, Nat.reduceLeDiff]
      exact k
    | some v =>
      rw [hi] at k
      simp only at k
      unfold opt
      simp only [wp_ok, wp_bad, wp_bind, wS_ok, wS_bad, wS_cons, wS_nil, wS_pass, wS_break, wS_cont, wS_never, wS_set, wS_expr, wS_ret, wS_retN, wS_if, wS_asg, wS_aug, wS_for, wp_lc, wp_m1, wp_m2, wp_mN, wp_aNil, wp_aCons, wp_mC, wp_var, wp_if, wp_and, wp_or, wp_not, wp_chain, wp_mt, wp_get, wp_isi, wp_fld, wp_sl, wp_oNone, wp_oSome, wp_tBool, wp_tTru, wp_tNot, wp_tAnd, wp_tOr, wp_tAll, wp_gSlot, wp_gsNil, wp_gsCons, wp_gTup, wp_gSub, wp_iAny, wp_iSeq, wp_iTup, wp_iStr, wp_iRange1, wp_iRange2, wp_iZip, wS_fld, wp_make, seqQ, rtQ, turnQ, List.getElem?_cons_zero, List.getElem?_cons_succ, List.set_cons_zero, List.set_cons_succ, wipeD, if_true, if_false, Bool.false_eq_true, Bool.true_eq_false, reduceIte, w_add, w_iadd, w_iaddS, w_addS, w_addL, w_addT, w_sub, w_mul, w_mod, w_fdiv, w_pow, w_neg, w_lt, w_le, w_gt, w_ge, w_eqI, w_neI, w_eqT, w_neT, w_isN, w_isnotN, w_isB, w_isNB, w_len, w_lenT, w_int, w_intB, w_abs, w_min, w_max, w_tup, w_lst, w_new, w_list, w_listN, w_ix, w_ixT, w_ixD, w_inT1, w_notinT1, w_inT2, w_notinT2, w_inT3, w_notinT3, w_inT4, w_notinT4, w_inT5, w_notinT5, w_inT6, w_notinT6, w_inT7, w_notinT7, w_inT8, w_notinT8, w_sl1, at_0, at_1, at_2, at_3, at_4, at_5, hasTy_list, hasTy_str, isNonD, flatD, sEq_T, List.all_cons, List.all_nil, List.any_cons, List.any_nil, Bool.and_true, Bool.true_and, Bool.or_false, Bool.or_true, Bool.true_or, Bool.false_or, Bool.not_true, Bool.not_false, List.length_cons, List.length_nil, Nat.zero_add, Nat.reduceAdd, line_eq, true_and, and_true, String.reduceBEq, Int.reduceBEq, decide_true, decide_false, Int.reduceLT, Int.reduceLE, beq_self_eq_true, Nat.reduceLeDiff]
      by_cases hv : v < 0
      · rw [if_pos hv] at k
        rw [if_pos (decide_eq_true hv)]
        exact k
      · rw [if_neg hv] at k
        rw [if_neg (by simpa using hv)]
        exact k
theorem plain_eq : ∀ k, fn_law_plain k = g_plain k
  | 0 => rfl
  | k + 1 => by
    unfold fn_law_plain g_plain
    rw [plain_eq k]
    rfl
theorem ints_ok {k : Nat} (xs : List Int) : (xs.map D.int).all (plainOk (k + 1)) = true := by
  rw [List.all_map]
  exact List.all_eq_true.mpr fun _ _ => rfl
theorem opt_ok {k : Nat} (o : Option Int) : plainOk (k + 1) (opt o) = true := by cases o <;> rfl
theorem asked_wp (hg : Good os) (hn : n.natAbs ≤ 10 ^ 30) (hlow : Low A B) (k : Q (.bl true) [A, B]) : wp (f_law_asked [rec_ os, .lst (os.map Ord.d), .int n] [A, B]) Q := by
  refine (wp_fn (n := 3) (tot := 8) (m := m_law_asked) rfl).mpr ?_
  show wS (m_law_asked [some (rec_ os), some (.lst (os.map Ord.d)), some (.int n), none, none, none, none, none] _) _
  have hlen : (res os n).2.length ≤ 33 := by
    have := exec_len (os := os) (n := n) os.length 0 [n, 0, 0, 0, 0, 0, 0, 0] []
    have h33 := hg.1
    simp only [List.length_nil, Nat.zero_add] at this
    exact Nat.le_trans this h33
  obtain ⟨d', h1, h2⟩ := told60 (k := 8) (d := .lst [opt (res os n).1, .lst ((res os n).2.map .int), opt (code n (res os n).1)]) (by
    simp only [plainOk, List.all_cons, List.all_nil, opt_ok, ints_ok, List.length_cons, List.length_nil, List.length_map, Bool.and_true, Bool.true_and]
    rw [Bool.and_eq_true]
    exact ⟨by show decide (3 < sizeLine) = true; decide, decide_eq_true (Nat.lt_of_le_of_lt hlen (by decide))⟩) (by decide)
  have hp : ∀ {s : S} {Q : D → S → Prop}, wp (f_law_plain [.lst [opt (res os n).1, .lst ((res os n).2.map .int), opt (code n (res os n).1)]] s) Q = Q d' s := by
    intro s Q
    show wp (fn_law_plain 8 _ s) Q = _
    rw [plain_eq, h1, wp_ok]
  have heq : ∀ {s : S} {Q : D → S → Prop}, wp (dEq d' d' s) Q = Q (.bl true) s := w_eq_self h2
  -- behind the code
  have rest : ∀ (c : Option Int) (v3 v4 v5 : Option D) (path : D), v3 = some (opt (res os n).1) → v4 = some (.lst ((res os n).2.map .int)) → c = code n (res os n).1 →
      wS (ssCons (sSet 7 (mN dLst (aCons (mN f_number_image (aCons (mVar 0) (aCons (mVar 2) aNil))) (aCons (mN f_number_path (aCons (mVar 0) (aCons (mVar 2) aNil))) (aCons (mN f_code_image (aCons (mVar 0) (aCons (mVar 2) aNil))) aNil)))))
        (sRet (m2 dEq (mN f_law_plain (aCons (mVar 7) aNil)) (mN f_law_plain (aCons (mN dLst (aCons (mVar 3) (aCons (mVar 4) (aCons (mVar 6) aNil)))) aNil)))) [some (rec_ os), some (.lst (os.map Ord.d)), some (.int n), v3, v4, v5, some (opt c), none] [A, B]) (rtQ Q) := by
    rintro c v3 v4 v5 path rfl rfl rfl
    simp only [wp_ok, wp_bad, wp_bind, wS_ok, wS_bad, wS_cons, wS_nil, wS_pass, wS_break, wS_cont, wS_never, wS_set, wS_expr, wS_ret, wS_retN, wS_if, wS_asg, wS_aug, wS_for, wp_lc, wp_m1, wp_m2, wp_mN, wp_aNil, wp_aCons, wp_mC, wp_var, wp_if, wp_and, wp_or, wp_not, wp_chain, wp_mt, wp_get, wp_isi, wp_fld, wp_sl, wp_oNone, wp_oSome, wp_tBool, wp_tTru, wp_tNot, wp_tAnd, wp_tOr, wp_tAll, wp_gSlot, wp_gsNil, wp_gsCons, wp_gTup, wp_gSub, wp_iAny, wp_iSeq, wp_iTup, wp_iStr, wp_iRange1, wp_iRange2, wp_iZip, wS_fld, wp_make, seqQ, rtQ, turnQ, List.getElem?_cons_zero, List.getElem?_cons_succ, List.set_cons_zero, List.set_cons_succ, wipeD, if_true, if_false, Bool.false_eq_true, Bool.true_eq_false, reduceIte, w_add, w_iadd, w_iaddS, w_addS, w_addL, w_addT, w_sub, w_mul, w_mod, w_fdiv, w_pow, w_neg, w_lt, w_le, w_gt, w_ge, w_eqI, w_neI, w_eqT, w_neT, w_isN, w_isnotN, w_isB, w_isNB, w_len, w_lenT, w_int, w_intB, w_abs, w_min, w_max, w_tup, w_lst, w_new, w_list, w_listN, w_ix, w_ixT, w_ixD, w_inT1, w_notinT1, w_inT2, w_notinT2, w_inT3, w_notinT3, w_inT4, w_notinT4, w_inT5, w_notinT5, w_inT6, w_notinT6, w_inT7, w_notinT7, w_inT8, w_notinT8, w_sl1, at_0, at_1, at_2, at_3, at_4, at_5, hasTy_list, hasTy_str, isNonD, flatD, sEq_T, List.all_cons, List.all_nil, List.any_cons, List.any_nil, Bool.and_true, Bool.true_and, Bool.or_false, Bool.or_true, Bool.true_or, Bool.false_or, Bool.not_true, Bool.not_false, List.length_cons, List.length_nil, Nat.zero_add, Nat.reduceAdd, line_eq, true_and, and_true, String.reduceBEq, Int.reduceBEq, decide_true, decide_false, Int.reduceLT, Int.reduceLE, beq_self_eq_true, Nat.reduceLeDiff]
    refine image_wp hg hn hlow ?_
    refine path_wp hg hn hlow ?_
    refine code_wp hg hn hlow ?_
    try simp only [wp_ok, wp_bad, wp_bind, wS_ok, wS_bad, wS_cons, wS_nil, wS_pass, wS_break, wS_cont, wS_never, wS_set, wS_expr, wS_ret, wS_retN, wS_if, wS_asg, wS_aug, wS_for, wp_lc, wp_m1, wp_m2, wp_mN, wp_aNil, wp_aCons, wp_mC, wp_var, wp_if, wp_and, wp_or, wp_not, wp_chain, wp_mt, wp_get, wp_isi, wp_fld, wp_sl, wp_oNone, wp_oSome, wp_tBool, wp_tTru, wp_tNot, wp_tAnd, wp_tOr, wp_tAll, wp_gSlot, wp_gsNil, wp_gsCons, wp_gTup, wp_gSub, wp_iAny, wp_iSeq, wp_iTup, wp_iStr, wp_iRange1, wp_iRange2, wp_iZip, wS_fld, wp_make, seqQ, rtQ, turnQ, List.getElem?_cons_zero, List.getElem?_cons_succ, List.set_cons_zero, List.set_cons_succ, wipeD, if_true, if_false, Bool.false_eq_true, Bool.true_eq_false, reduceIte, w_add, w_iadd, w_iaddS, w_addS, w_addL, w_addT, w_sub, w_mul, w_mod, w_fdiv, w_pow, w_neg, w_lt, w_le, w_gt, w_ge, w_eqI, w_neI, w_eqT, w_neT, w_isN, w_isnotN, w_isB, w_isNB, w_len, w_lenT, w_int, w_intB, w_abs, w_min, w_max, w_tup, w_lst, w_new, w_list, w_listN, w_ix, w_ixT, w_ixD, w_inT1, w_notinT1, w_inT2, w_notinT2, w_inT3, w_notinT3, w_inT4, w_notinT4, w_inT5, w_notinT5, w_inT6, w_notinT6, w_inT7, w_notinT7, w_inT8, w_notinT8, w_sl1, at_0, at_1, at_2, at_3, at_4, at_5, hasTy_list, hasTy_str, isNonD, flatD, sEq_T, List.all_cons, List.all_nil, List.any_cons, List.any_nil, Bool.and_true, Bool.true_and, Bool.or_false, Bool.or_true, Bool.true_or, Bool.false_or, Bool.not_true, Bool.not_false, List.length_cons, List.length_nil, Nat.zero_add, Nat.reduceAdd, line_eq, true_and, and_true, String.reduceBEq, Int.reduceBEq, decide_true, decide_false, Int.reduceLT, Int.reduceLE, beq_self_eq_true, Nat.reduceLeDiff]
    rw [hp, hp, heq]
    exact k
  unfold m_law_asked
  rw [wS_cons, wS_asg, wp_mN]
  simp only [wp_aCons, wp_aNil, wp_var, List.getElem?_cons_zero, List.getElem?_cons_succ]
  refine run_wp hg hn hlow fun ts => ?_
  simp only [wp_gTup, wp_gsCons, wp_gsNil, wp_gSlot, List.length_cons, List.length_nil, List.set_cons_zero, List.set_cons_succ, true_and, seqQ]
  rw [wS_cons, wS_set, wp_var]
  simp only [List.getElem?_cons_zero, List.getElem?_cons_succ, List.set_cons_zero, List.set_cons_succ, seqQ]
  rw [wS_cons, wS_if]
  have hi : (exec os n os.length 0 [n, 0, 0, 0, 0, 0, 0, 0] []) = res os n := rfl
  rw [hi]
  simp only [wp_tOr, wp_tAnd, wp_tBool, wp_m2, wp_var, List.getElem?_cons_zero, List.getElem?_cons_succ, wp_mC, w_lt, w_isnotN]
  by_cases hn0 : n < 0
  · rw [if_pos (decide_eq_true hn0)]
    simp only [if_true, wS_set, wp_mC, List.set_cons_zero, List.set_cons_succ]
    exact rest none _ _ _ .non rfl rfl (by unfold code; rw [if_pos hn0])
  · rw [if_neg (by simpa using hn0)]
    cases hv : (res os n).1 with
    | none =>
      simp only [opt, isNonD, Bool.not_true, Bool.false_eq_true, if_false, wS_nil]
      exact rest none _ _ _ .non (by rw [hv]; rfl) rfl (by unfold code; rw [if_neg hn0, hv])
    | some v =>
      simp only [opt, isNonD, Bool.not_false, if_true, wS_nil, w_lt]
      by_cases hv0 : v < 0
      · rw [if_pos (decide_eq_true hv0)]
        simp only [wS_set, wp_mC, List.set_cons_zero, List.set_cons_succ]
        exact rest none _ _ _ .non (by rw [hv]; rfl) rfl (by unfold code; rw [if_neg hn0, hv]; simp only; rw [if_pos hv0])
      · rw [if_neg (by simpa using hv0)]
        exact rest (some v) _ _ _ .non (by rw [hv]; rfl) rfl (by unfold code; rw [if_neg hn0, hv]; simp only; rw [if_neg hv0])
theorem datum_wp (h : Dk s t) (k : ∀ v s', v.natAbs ≤ 10 ^ 30 → Dk s' t → Q (.int v) s') : wp (f_law_datum [.ref 0] s) Q := by
  refine (wp_fn (n := 1) (tot := 3) (m := m_law_datum) rfl).mpr ?_
  show wS (m_law_datum [some (.ref 0), none, none] s) _
  unfold m_law_datum
  simp only [wp_ok, wp_bad, wp_bind, wS_ok, wS_bad, wS_cons, wS_nil, wS_pass, wS_break, wS_cont, wS_never, wS_set, wS_expr, wS_ret, wS_retN, wS_if, wS_asg, wS_aug, wS_for, wp_lc, wp_m1, wp_m2, wp_mN, wp_aNil, wp_aCons, wp_mC, wp_var, wp_if, wp_and, wp_or, wp_not, wp_chain, wp_mt, wp_get, wp_isi, wp_fld, wp_sl, wp_oNone, wp_oSome, wp_tBool, wp_tTru, wp_tNot, wp_tAnd, wp_tOr, wp_tAll, wp_gSlot, wp_gsNil, wp_gsCons, wp_gTup, wp_gSub, wp_iAny, wp_iSeq, wp_iTup, wp_iStr, wp_iRange1, wp_iRange2, wp_iZip, wS_fld, wp_make, seqQ, rtQ, turnQ, List.getElem?_cons_zero, List.getElem?_cons_succ, List.set_cons_zero, List.set_cons_succ, wipeD, if_true, if_false, Bool.false_eq_true, Bool.true_eq_false, reduceIte, w_add, w_iadd, w_iaddS, w_addS, w_addL, w_addT, w_sub, w_mul, w_mod, w_fdiv, w_pow, w_neg, w_lt, w_le, w_gt, w_ge, w_eqI, w_neI, w_eqT, w_neT, w_isN, w_isnotN, w_isB, w_isNB, w_len, w_lenT, w_int, w_intB, w_abs, w_min, w_max, w_tup, w_lst, w_new, w_list, w_listN, w_ix, w_ixT, w_ixD, w_inT1, w_notinT1, w_inT2, w_notinT2, w_inT3, w_notinT3, w_inT4, w_notinT4, w_inT5, w_notinT5, w_inT6, w_notinT6, w_inT7, w_notinT7, w_inT8, w_notinT8, w_sl1, at_0, at_1, at_2, at_3, at_4, at_5, hasTy_list, hasTy_str, isNonD, flatD, sEq_T, List.all_cons, List.all_nil, List.any_cons, List.any_nil, Bool.and_true, Bool.true_and, Bool.or_false, Bool.or_true, Bool.true_or, Bool.false_or, Bool.not_true, Bool.not_false, List.length_cons, List.length_nil, Nat.zero_add, Nat.reduceAdd, line_eq, true_and, and_true, String.reduceBEq, Int.reduceBEq, decide_true, decide_false, Int.reduceLT, Int.reduceLE, beq_self_eq_true, Nat.reduceLeDiff]
  refine tk h (by decide) fun a s1 a0 a1 d1 => ?_
  simp only [wp_ok, wp_bad, wp_bind, wS_ok, wS_bad, wS_cons, wS_nil, wS_pass, wS_break, wS_cont, wS_never, wS_set, wS_expr, wS_ret, wS_retN, wS_if, wS_asg, wS_aug, wS_for, wp_lc, wp_m1, wp_m2, wp_mN, wp_aNil, wp_aCons, wp_mC, wp_var, wp_if, wp_and, wp_or, wp_not, wp_chain, wp_mt, wp_get, wp_isi, wp_fld, wp_sl, wp_oNone, wp_oSome, wp_tBool, wp_tTru, wp_tNot, wp_tAnd, wp_tOr, wp_tAll, wp_gSlot, wp_gsNil, wp_gsCons, wp_gTup, wp_gSub, wp_iAny, wp_iSeq, wp_iTup, wp_iStr, wp_iRange1, wp_iRange2, wp_iZip, wS_fld, wp_make, seqQ, rtQ, turnQ, List.getElem?_cons_zero, List.getElem?_cons_succ, List.set_cons_zero, List.set_cons_succ, wipeD, if_true, if_false, Bool.false_eq_true, Bool.true_eq_false, reduceIte, w_add, w_iadd, w_iaddS, w_addS, w_addL, w_addT, w_sub, w_mul, w_mod, w_fdiv, w_pow, w_neg, w_lt, w_le, w_gt, w_ge, w_eqI, w_neI, w_eqT, w_neT, w_isN, w_isnotN, w_isB, w_isNB, w_len, w_lenT, w_int, w_intB, w_abs, w_min, w_max, w_tup, w_lst, w_new, w_list, w_listN, w_ix, w_ixT, w_ixD, w_inT1, w_notinT1, w_inT2, w_notinT2, w_inT3, w_notinT3, w_inT4, w_notinT4, w_inT5, w_notinT5, w_inT6, w_notinT6, w_inT7, w_notinT7, w_inT8, w_notinT8, w_sl1, at_0, at_1, at_2, at_3, at_4, at_5, hasTy_list, hasTy_str, isNonD, flatD, sEq_T, List.all_cons, List.all_nil, List.any_cons, List.any_nil, Bool.and_true, Bool.true_and, Bool.or_false, Bool.or_true, Bool.true_or, Bool.false_or, Bool.not_true, Bool.not_false, List.length_cons, List.length_nil, Nat.zero_add, Nat.reduceAdd, line_eq, true_and, and_true, String.reduceBEq, Int.reduceBEq, decide_true, decide_false, Int.reduceLT, Int.reduceLE, beq_self_eq_true, Nat.reduceLeDiff]
  refine tk d1 (by decide) fun b s2 b0 b1 d2 => ?_
  simp only [wp_ok, wp_bad, wp_bind, wS_ok, wS_bad, wS_cons, wS_nil, wS_pass, wS_break, wS_cont, wS_never, wS_set, wS_expr, wS_ret, wS_retN, wS_if, wS_asg, wS_aug, wS_for, wp_lc, wp_m1, wp_m2, wp_mN, wp_aNil, wp_aCons, wp_mC, wp_var, wp_if, wp_and, wp_or, wp_not, wp_chain, wp_mt, wp_get, wp_isi, wp_fld, wp_sl, wp_oNone, wp_oSome, wp_tBool, wp_tTru, wp_tNot, wp_tAnd, wp_tOr, wp_tAll, wp_gSlot, wp_gsNil, wp_gsCons, wp_gTup, wp_gSub, wp_iAny, wp_iSeq, wp_iTup, wp_iStr, wp_iRange1, wp_iRange2, wp_iZip, wS_fld, wp_make, seqQ, rtQ, turnQ, List.getElem?_cons_zero, List.getElem?_cons_succ, List.set_cons_zero, List.set_cons_succ, wipeD, if_true, if_false, Bool.false_eq_true, Bool.true_eq_false, reduceIte, w_add, w_iadd, w_iaddS, w_addS, w_addL, w_addT, w_sub, w_mul, w_mod, w_fdiv, w_pow, w_neg, w_lt, w_le, w_gt, w_ge, w_eqI, w_neI, w_eqT, w_neT, w_isN, w_isnotN, w_isB, w_isNB, w_len, w_lenT, w_int, w_intB, w_abs, w_min, w_max, w_tup, w_lst, w_new, w_list, w_listN, w_ix, w_ixT, w_ixD, w_inT1, w_notinT1, w_inT2, w_notinT2, w_inT3, w_notinT3, w_inT4, w_notinT4, w_inT5, w_notinT5, w_inT6, w_notinT6, w_inT7, w_notinT7, w_inT8, w_notinT8, w_sl1, at_0, at_1, at_2, at_3, at_4, at_5, hasTy_list, hasTy_str, isNonD, flatD, sEq_T, List.all_cons, List.all_nil, List.any_cons, List.any_nil, Bool.and_true, Bool.true_and, Bool.or_false, Bool.or_true, Bool.true_or, Bool.false_or, Bool.not_true, Bool.not_false, List.length_cons, List.length_nil, Nat.zero_add, Nat.reduceAdd, line_eq, true_and, and_true, String.reduceBEq, Int.reduceBEq, decide_true, decide_false, Int.reduceLT, Int.reduceLE, beq_self_eq_true, Nat.reduceLeDiff]
  have e6 : (10 : Int) ^ (6 : Int).toNat = 1000000 := by decide
  have e12 : (10 : Int) ^ (12 : Int).toNat = 1000000000000 := by decide
  rw [e6, e12]
  refine ⟨by decide, by decide, tk d2 (by decide) fun c s3 c0 c1 d3 => ?_⟩
  refine ix_any c0 c1 fun z hz => ?_
  have hz' : ∃ y : Int, z = .int y ∧ 0 ≤ y ∧ y ≤ 1000000000000 := by
    simp only [List.mem_cons, List.not_mem_nil, or_false] at hz
    rcases hz with rfl | rfl | rfl <;> exact ⟨_, rfl, by decide, by decide⟩
  obtain ⟨y, rfl, y0, y1⟩ := hz'
  have hp : 10 ^ 30 = 1000000000000000000000000000000 := by decide
  have hg1 : ((b - 500001) * y).natAbs ≤ 500001 * 1000000000000 := by
    rw [Int.natAbs_mul]
    exact Nat.mul_le_mul (by omega) (by omega)
  simp only [wp_ok, wp_bad, wp_bind, wS_ok, wS_bad, wS_cons, wS_nil, wS_pass, wS_break, wS_cont, wS_never, wS_set, wS_expr, wS_ret, wS_retN, wS_if, wS_asg, wS_aug, wS_for, wp_lc, wp_m1, wp_m2, wp_mN, wp_aNil, wp_aCons, wp_mC, wp_var, wp_if, wp_and, wp_or, wp_not, wp_chain, wp_mt, wp_get, wp_isi, wp_fld, wp_sl, wp_oNone, wp_oSome, wp_tBool, wp_tTru, wp_tNot, wp_tAnd, wp_tOr, wp_tAll, wp_gSlot, wp_gsNil, wp_gsCons, wp_gTup, wp_gSub, wp_iAny, wp_iSeq, wp_iTup, wp_iStr, wp_iRange1, wp_iRange2, wp_iZip, wS_fld, wp_make, seqQ, rtQ, turnQ, List.getElem?_cons_zero, List.getElem?_cons_succ, List.set_cons_zero, List.set_cons_succ, wipeD, if_true, if_false, Bool.false_eq_true, Bool.true_eq_false, reduceIte, w_add, w_iadd, w_iaddS, w_addS, w_addL, w_addT, w_sub, w_mul, w_mod, w_fdiv, w_pow, w_neg, w_lt, w_le, w_gt, w_ge, w_eqI, w_neI, w_eqT, w_neT, w_isN, w_isnotN, w_isB, w_isNB, w_len, w_lenT, w_int, w_intB, w_abs, w_min, w_max, w_tup, w_lst, w_new, w_list, w_listN, w_ix, w_ixT, w_ixD, w_inT1, w_notinT1, w_inT2, w_notinT2, w_inT3, w_notinT3, w_inT4, w_notinT4, w_inT5, w_notinT5, w_inT6, w_notinT6, w_inT7, w_notinT7, w_inT8, w_notinT8, w_sl1, at_0, at_1, at_2, at_3, at_4, at_5, hasTy_list, hasTy_str, isNonD, flatD, sEq_T, List.all_cons, List.all_nil, List.any_cons, List.any_nil, Bool.and_true, Bool.true_and, Bool.or_false, Bool.or_true, Bool.true_or, Bool.false_or, Bool.not_true, Bool.not_false, List.length_cons, List.length_nil, Nat.zero_add, Nat.reduceAdd, line_eq, true_and, and_true, String.reduceBEq, Int.reduceBEq, decide_true, decide_false, Int.reduceLT, Int.reduceLE, beq_self_eq_true, Nat.reduceLeDiff]
  refine ⟨?_, ?_, tk d3 (by decide) fun u s4 u0 u1 d4 => ?_⟩
  · have h1 : iBits (b - 500001) ≤ 32 := small_bits (k := 32) (by omega)
    have h2 : iBits y ≤ 64 := small_bits (k := 64) (by omega)
    omega
  · have h1 : iBits 60 ≤ 32 := by decide
    have h2 : iBits (a - 15) ≤ 32 := small_bits (k := 32) (by omega)
    omega
  generalize (b - 500001) * y = g at hg1 ⊢
  simp only [wp_ok, wp_bad, wp_bind, wS_ok, wS_bad, wS_cons, wS_nil, wS_pass, wS_break, wS_cont, wS_never, wS_set, wS_expr, wS_ret, wS_retN, wS_if, wS_asg, wS_aug, wS_for, wp_lc, wp_m1, wp_m2, wp_mN, wp_aNil, wp_aCons, wp_mC, wp_var, wp_if, wp_and, wp_or, wp_not, wp_chain, wp_mt, wp_get, wp_isi, wp_fld, wp_sl, wp_oNone, wp_oSome, wp_tBool, wp_tTru, wp_tNot, wp_tAnd, wp_tOr, wp_tAll, wp_gSlot, wp_gsNil, wp_gsCons, wp_gTup, wp_gSub, wp_iAny, wp_iSeq, wp_iTup, wp_iStr, wp_iRange1, wp_iRange2, wp_iZip, wS_fld, wp_make, seqQ, rtQ, turnQ, List.getElem?_cons_zero, List.getElem?_cons_succ, List.set_cons_zero, List.set_cons_succ, wipeD, if_true, if_false, Bool.false_eq_true, Bool.true_eq_false, reduceIte, w_add, w_iadd, w_iaddS, w_addS, w_addL, w_addT, w_sub, w_mul, w_mod, w_fdiv, w_pow, w_neg, w_lt, w_le, w_gt, w_ge, w_eqI, w_neI, w_eqT, w_neT, w_isN, w_isnotN, w_isB, w_isNB, w_len, w_lenT, w_int, w_intB, w_abs, w_min, w_max, w_tup, w_lst, w_new, w_list, w_listN, w_ix, w_ixT, w_ixD, w_inT1, w_notinT1, w_inT2, w_notinT2, w_inT3, w_notinT3, w_inT4, w_notinT4, w_inT5, w_notinT5, w_inT6, w_notinT6, w_inT7, w_notinT7, w_inT8, w_notinT8, w_sl1, at_0, at_1, at_2, at_3, at_4, at_5, hasTy_list, hasTy_str, isNonD, flatD, sEq_T, List.all_cons, List.all_nil, List.any_cons, List.any_nil, Bool.and_true, Bool.true_and, Bool.or_false, Bool.or_true, Bool.true_or, Bool.false_or, Bool.not_true, Bool.not_false, List.length_cons, List.length_nil, Nat.zero_add, Nat.reduceAdd, line_eq, true_and, and_true, String.reduceBEq, Int.reduceBEq, decide_true, decide_false, Int.reduceLT, Int.reduceLE, beq_self_eq_true, Nat.reduceLeDiff]
  refine tk d4 (by decide) fun q s5 q0 q1 d5 => ?_
  refine ix_any q0 q1 fun d hd => ?_
  simp only [List.mem_cons, List.not_mem_nil, or_false] at hd
  rcases hd with rfl | rfl | rfl | rfl <;> exact k _ _ (by rw [hp]; omega) d5
/-! ### a recipe is accepted -/
theorem w_inD {kvs : List (Str × D)} {z : Str} : wp (dIn (.str z) (.dic kvs) s) Q = Q (.bl (kvs.lookup z).isSome) s := wp_ok
theorem fits_r {a : Int} {b l : D} (ha : rg a) (k : Q (.bl true) s) : wp (f_fits [.str "r", .int a, b, l] s) Q := by
  refine (wp_fn (n := 4) (tot := 4) (m := m_fits) rfl).mpr ?_
  show wS (m_fits [some (.str "r"), some (.int a), some b, some l] s) _
  have e : (([("r", D.int 8), ("f", D.int 4)] : List (Str × D)).lookup (Str.ofString "r")) = some (.int 8) := by
    simp only [List.lookup_cons, str_beq, String.reduceBEq]
  unfold m_fits c_BOUNDS d_BOUNDS
  simp only [wp_ok, wp_bad, wp_bind, wS_ok, wS_bad, wS_cons, wS_nil, wS_pass, wS_break, wS_cont, wS_never, wS_set, wS_expr, wS_ret, wS_retN, wS_if, wS_asg, wS_aug, wS_for, wp_lc, wp_m1, wp_m2, wp_mN, wp_aNil, wp_aCons, wp_mC, wp_var, wp_if, wp_and, wp_or, wp_not, wp_chain, wp_mt, wp_get, wp_isi, wp_fld, wp_sl, wp_oNone, wp_oSome, wp_tBool, wp_tTru, wp_tNot, wp_tAnd, wp_tOr, wp_tAll, wp_gSlot, wp_gsNil, wp_gsCons, wp_gTup, wp_gSub, wp_iAny, wp_iSeq, wp_iTup, wp_iStr, wp_iRange1, wp_iRange2, wp_iZip, wS_fld, wp_make, seqQ, rtQ, turnQ, List.getElem?_cons_zero, List.getElem?_cons_succ, List.set_cons_zero, List.set_cons_succ, wipeD, if_true, if_false, Bool.false_eq_true, Bool.true_eq_false, reduceIte, w_add, w_iadd, w_iaddS, w_addS, w_addL, w_addT, w_sub, w_mul, w_mod, w_fdiv, w_pow, w_neg, w_lt, w_le, w_gt, w_ge, w_eqI, w_neI, w_eqT, w_neT, w_isN, w_isnotN, w_isB, w_isNB, w_len, w_lenT, w_int, w_intB, w_abs, w_min, w_max, w_tup, w_lst, w_new, w_list, w_listN, w_ix, w_ixT, w_ixD, w_inT1, w_notinT1, w_inT2, w_notinT2, w_inT3, w_notinT3, w_inT4, w_notinT4, w_inT5, w_notinT5, w_inT6, w_notinT6, w_inT7, w_notinT7, w_inT8, w_notinT8, w_sl1, at_0, at_1, at_2, at_3, at_4, at_5, hasTy_list, hasTy_str, isNonD, flatD, sEq_T, List.all_cons, List.all_nil, List.any_cons, List.any_nil, Bool.and_true, Bool.true_and, Bool.or_false, Bool.or_true, Bool.true_or, Bool.false_or, Bool.not_true, Bool.not_false, List.length_cons, List.length_nil, Nat.zero_add, Nat.reduceAdd, line_eq, true_and, and_true, String.reduceBEq, Int.reduceBEq, decide_true, decide_false, Int.reduceLT, Int.reduceLE, beq_self_eq_true, Nat.reduceLeDiff]
  simp only [w_inD, e, Option.isSome_some, if_true, w_ixD, w_lt, w_le]
  rw [decide_eq_true ha.1]
  try simp only [wp_ok, wp_bad, wp_bind, wS_ok, wS_bad, wS_cons, wS_nil, wS_pass, wS_break, wS_cont, wS_never, wS_set, wS_expr, wS_ret, wS_retN, wS_if, wS_asg, wS_aug, wS_for, wp_lc, wp_m1, wp_m2, wp_mN, wp_aNil, wp_aCons, wp_mC, wp_var, wp_if, wp_and, wp_or, wp_not, wp_chain, wp_mt, wp_get, wp_isi, wp_fld, wp_sl, wp_oNone, wp_oSome, wp_tBool, wp_tTru, wp_tNot, wp_tAnd, wp_tOr, wp_tAll, wp_gSlot, wp_gsNil, wp_gsCons, wp_gTup, wp_gSub, wp_iAny, wp_iSeq, wp_iTup, wp_iStr, wp_iRange1, wp_iRange2, wp_iZip, wS_fld, wp_make, seqQ, rtQ, turnQ, List.getElem?_cons_zero, List.getElem?_cons_succ, List.set_cons_zero, List.set_cons_succ, wipeD, if_true, if_false, Bool.false_eq_true, Bool.true_eq_false, reduceIte, w_add, w_iadd, w_iaddS, w_addS, w_addL, w_addT, w_sub, w_mul, w_mod, w_fdiv, w_pow, w_neg, w_lt, w_le, w_gt, w_ge, w_eqI, w_neI, w_eqT, w_neT, w_isN, w_isnotN, w_isB, w_isNB, w_len, w_lenT, w_int, w_intB, w_abs, w_min, w_max, w_tup, w_lst, w_new, w_list, w_listN, w_ix, w_ixT, w_ixD, w_inT1, w_notinT1, w_inT2, w_notinT2, w_inT3, w_notinT3, w_inT4, w_notinT4, w_inT5, w_notinT5, w_inT6, w_notinT6, w_inT7, w_notinT7, w_inT8, w_notinT8, w_sl1, at_0, at_1, at_2, at_3, at_4, at_5, hasTy_list, hasTy_str, isNonD, flatD, sEq_T, List.all_cons, List.all_nil, List.any_cons, List.any_nil, Bool.and_true, Bool.true_and, Bool.or_false, Bool.or_true, Bool.true_or, Bool.false_or, Bool.not_true, Bool.not_false, List.length_cons, List.length_nil, Nat.zero_add, Nat.reduceAdd, line_eq, true_and, and_true, String.reduceBEq, Int.reduceBEq, decide_true, decide_false, Int.reduceLT, Int.reduceLE, beq_self_eq_true, Nat.reduceLeDiff]
  rw [decide_eq_true ha.2]
  exact k
theorem fits_n {a : Int} {b l : D} (k : Q (.bl true) s) : wp (f_fits [.str "n", .int a, b, l] s) Q := by
  refine (wp_fn (n := 4) (tot := 4) (m := m_fits) rfl).mpr ?_
  show wS (m_fits [some (.str "n"), some (.int a), some b, some l] s) _
  have e : (([("r", D.int 8), ("f", D.int 4)] : List (Str × D)).lookup (Str.ofString "n")) = none := by
    simp only [List.lookup_cons, str_beq, String.reduceBEq, List.lookup_nil]
  unfold m_fits c_BOUNDS d_BOUNDS
  simp only [wp_ok, wp_bad, wp_bind, wS_ok, wS_bad, wS_cons, wS_nil, wS_pass, wS_break, wS_cont, wS_never, wS_set, wS_expr, wS_ret, wS_retN, wS_if, wS_asg, wS_aug, wS_for, wp_lc, wp_m1, wp_m2, wp_mN, wp_aNil, wp_aCons, wp_mC, wp_var, wp_if, wp_and, wp_or, wp_not, wp_chain, wp_mt, wp_get, wp_isi, wp_fld, wp_sl, wp_oNone, wp_oSome, wp_tBool, wp_tTru, wp_tNot, wp_tAnd, wp_tOr, wp_tAll, wp_gSlot, wp_gsNil, wp_gsCons, wp_gTup, wp_gSub, wp_iAny, wp_iSeq, wp_iTup, wp_iStr, wp_iRange1, wp_iRange2, wp_iZip, wS_fld, wp_make, seqQ, rtQ, turnQ, List.getElem?_cons_zero, List.getElem?_cons_succ, List.set_cons_zero, List.set_cons_succ, wipeD, if_true, if_false, Bool.false_eq_true, Bool.true_eq_false, reduceIte, w_add, w_iadd, w_iaddS, w_addS, w_addL, w_addT, w_sub, w_mul, w_mod, w_fdiv, w_pow, w_neg, w_lt, w_le, w_gt, w_ge, w_eqI, w_neI, w_eqT, w_neT, w_isN, w_isnotN, w_isB, w_isNB, w_len, w_lenT, w_int, w_intB, w_abs, w_min, w_max, w_tup, w_lst, w_new, w_list, w_listN, w_ix, w_ixT, w_ixD, w_inT1, w_notinT1, w_inT2, w_notinT2, w_inT3, w_notinT3, w_inT4, w_notinT4, w_inT5, w_notinT5, w_inT6, w_notinT6, w_inT7, w_notinT7, w_inT8, w_notinT8, w_sl1, at_0, at_1, at_2, at_3, at_4, at_5, hasTy_list, hasTy_str, isNonD, flatD, sEq_T, List.all_cons, List.all_nil, List.any_cons, List.any_nil, Bool.and_true, Bool.true_and, Bool.or_false, Bool.or_true, Bool.true_or, Bool.false_or, Bool.not_true, Bool.not_false, List.length_cons, List.length_nil, Nat.zero_add, Nat.reduceAdd, line_eq, true_and, and_true, String.reduceBEq, Int.reduceBEq, decide_true, decide_false, Int.reduceLT, Int.reduceLE, beq_self_eq_true, Nat.reduceLeDiff]
  simp only [w_inD, e, Option.isSome_none, Bool.false_eq_true, if_false]
  try simp only [wp_ok, wp_bad, wp_bind, wS_ok, wS_bad, wS_cons, wS_nil, wS_pass, wS_break, wS_cont, wS_never, wS_set, wS_expr, wS_ret, wS_retN, wS_if, wS_asg, wS_aug, wS_for, wp_lc, wp_m1, wp_m2, wp_mN, wp_aNil, wp_aCons, wp_mC, wp_var, wp_if, wp_and, wp_or, wp_not, wp_chain, wp_mt, wp_get, wp_isi, wp_fld, wp_sl, wp_oNone, wp_oSome, wp_tBool, wp_tTru, wp_tNot, wp_tAnd, wp_tOr, wp_tAll, wp_gSlot, wp_gsNil, wp_gsCons, wp_gTup, wp_gSub, wp_iAny, wp_iSeq, wp_iTup, wp_iStr, wp_iRange1, wp_iRange2, wp_iZip, wS_fld, wp_make, seqQ, rtQ, turnQ, List.getElem?_cons_zero, List.getElem?_cons_succ, List.set_cons_zero, List.set_cons_succ, wipeD, if_true, if_false, Bool.false_eq_true, Bool.true_eq_false, reduceIte, w_add, w_iadd, w_iaddS, w_addS, w_addL, w_addT, w_sub, w_mul, w_mod, w_fdiv, w_pow, w_neg, w_lt, w_le, w_gt, w_ge, w_eqI, w_neI, w_eqT, w_neT, w_isN, w_isnotN, w_isB, w_isNB, w_len, w_lenT, w_int, w_intB, w_abs, w_min, w_max, w_tup, w_lst, w_new, w_list, w_listN, w_ix, w_ixT, w_ixD, w_inT1, w_notinT1, w_inT2, w_notinT2, w_inT3, w_notinT3, w_inT4, w_notinT4, w_inT5, w_notinT5, w_inT6, w_notinT6, w_inT7, w_notinT7, w_inT8, w_notinT8, w_sl1, at_0, at_1, at_2, at_3, at_4, at_5, hasTy_list, hasTy_str, isNonD, flatD, sEq_T, List.all_cons, List.all_nil, List.any_cons, List.any_nil, Bool.and_true, Bool.true_and, Bool.or_false, Bool.or_true, Bool.true_or, Bool.false_or, Bool.not_true, Bool.not_false, List.length_cons, List.length_nil, Nat.zero_add, Nat.reduceAdd, line_eq, true_and, and_true, String.reduceBEq, Int.reduceBEq, decide_true, decide_false, Int.reduceLT, Int.reduceLE, beq_self_eq_true, Nat.reduceLeDiff]
  exact k
theorem fits_d {a : Int} {b l : D} (h1 : 1 ≤ a) (h6 : a ≤ 6) (k : Q (.bl true) s) : wp (f_fits [.str "d", .int a, b, l] s) Q := by
  refine (wp_fn (n := 4) (tot := 4) (m := m_fits) rfl).mpr ?_
  show wS (m_fits [some (.str "d"), some (.int a), some b, some l] s) _
  have e : (([("r", D.int 8), ("f", D.int 4)] : List (Str × D)).lookup (Str.ofString "d")) = none := by
    simp only [List.lookup_cons, str_beq, String.reduceBEq, List.lookup_nil]
  unfold m_fits c_BOUNDS d_BOUNDS c_MOST_DIVISOR d_MOST_DIVISOR
  simp only [wp_ok, wp_bad, wp_bind, wS_ok, wS_bad, wS_cons, wS_nil, wS_pass, wS_break, wS_cont, wS_never, wS_set, wS_expr, wS_ret, wS_retN, wS_if, wS_asg, wS_aug, wS_for, wp_lc, wp_m1, wp_m2, wp_mN, wp_aNil, wp_aCons, wp_mC, wp_var, wp_if, wp_and, wp_or, wp_not, wp_chain, wp_mt, wp_get, wp_isi, wp_fld, wp_sl, wp_oNone, wp_oSome, wp_tBool, wp_tTru, wp_tNot, wp_tAnd, wp_tOr, wp_tAll, wp_gSlot, wp_gsNil, wp_gsCons, wp_gTup, wp_gSub, wp_iAny, wp_iSeq, wp_iTup, wp_iStr, wp_iRange1, wp_iRange2, wp_iZip, wS_fld, wp_make, seqQ, rtQ, turnQ, List.getElem?_cons_zero, List.getElem?_cons_succ, List.set_cons_zero, List.set_cons_succ, wipeD, if_true, if_false, Bool.false_eq_true, Bool.true_eq_false, reduceIte, w_add, w_iadd, w_iaddS, w_addS, w_addL, w_addT, w_sub, w_mul, w_mod, w_fdiv, w_pow, w_neg, w_lt, w_le, w_gt, w_ge, w_eqI, w_neI, w_eqT, w_neT, w_isN, w_isnotN, w_isB, w_isNB, w_len, w_lenT, w_int, w_intB, w_abs, w_min, w_max, w_tup, w_lst, w_new, w_list, w_listN, w_ix, w_ixT, w_ixD, w_inT1, w_notinT1, w_inT2, w_notinT2, w_inT3, w_notinT3, w_inT4, w_notinT4, w_inT5, w_notinT5, w_inT6, w_notinT6, w_inT7, w_notinT7, w_inT8, w_notinT8, w_sl1, at_0, at_1, at_2, at_3, at_4, at_5, hasTy_list, hasTy_str, isNonD, flatD, sEq_T, List.all_cons, List.all_nil, List.any_cons, List.any_nil, Bool.and_true, Bool.true_and, Bool.or_false, Bool.or_true, Bool.true_or, Bool.false_or, Bool.not_true, Bool.not_false, List.length_cons, List.length_nil, Nat.zero_add, Nat.reduceAdd, line_eq, true_and, and_true, String.reduceBEq, Int.reduceBEq, decide_true, decide_false, Int.reduceLT, Int.reduceLE, beq_self_eq_true, Nat.reduceLeDiff]
  simp only [w_inD, e, Option.isSome_none, Bool.false_eq_true, if_false]
  try simp only [wp_ok, wp_bad, wp_bind, wS_ok, wS_bad, wS_cons, wS_nil, wS_pass, wS_break, wS_cont, wS_never, wS_set, wS_expr, wS_ret, wS_retN, wS_if, wS_asg, wS_aug, wS_for, wp_lc, wp_m1, wp_m2, wp_mN, wp_aNil, wp_aCons, wp_mC, wp_var, wp_if, wp_and, wp_or, wp_not, wp_chain, wp_mt, wp_get, wp_isi, wp_fld, wp_sl, wp_oNone, wp_oSome, wp_tBool, wp_tTru, wp_tNot, wp_tAnd, wp_tOr, wp_tAll, wp_gSlot, wp_gsNil, wp_gsCons, wp_gTup, wp_gSub, wp_iAny, wp_iSeq, wp_iTup, wp_iStr, wp_iRange1, wp_iRange2, wp_iZip, wS_fld, wp_make, seqQ, rtQ, turnQ, List.getElem?_cons_zero, List.getElem?_cons_succ, List.set_cons_zero, List.set_cons_succ, wipeD, if_true, if_false, Bool.false_eq_true, Bool.true_eq_false, reduceIte, w_add, w_iadd, w_iaddS, w_addS, w_addL, w_addT, w_sub, w_mul, w_mod, w_fdiv, w_pow, w_neg, w_lt, w_le, w_gt, w_ge, w_eqI, w_neI, w_eqT, w_neT, w_isN, w_isnotN, w_isB, w_isNB, w_len, w_lenT, w_int, w_intB, w_abs, w_min, w_max, w_tup, w_lst, w_new, w_list, w_listN, w_ix, w_ixT, w_ixD, w_inT1, w_notinT1, w_inT2, w_notinT2, w_inT3, w_notinT3, w_inT4, w_notinT4, w_inT5, w_notinT5, w_inT6, w_notinT6, w_inT7, w_notinT7, w_inT8, w_notinT8, w_sl1, at_0, at_1, at_2, at_3, at_4, at_5, hasTy_list, hasTy_str, isNonD, flatD, sEq_T, List.all_cons, List.all_nil, List.any_cons, List.any_nil, Bool.and_true, Bool.true_and, Bool.or_false, Bool.or_true, Bool.true_or, Bool.false_or, Bool.not_true, Bool.not_false, List.length_cons, List.length_nil, Nat.zero_add, Nat.reduceAdd, line_eq, true_and, and_true, String.reduceBEq, Int.reduceBEq, decide_true, decide_false, Int.reduceLT, Int.reduceLE, beq_self_eq_true, Nat.reduceLeDiff]
  rw [decide_eq_true h1]
  simp only [wp_ok, wp_bad, wp_bind, wS_ok, wS_bad, wS_cons, wS_nil, wS_pass, wS_break, wS_cont, wS_never, wS_set, wS_expr, wS_ret, wS_retN, wS_if, wS_asg, wS_aug, wS_for, wp_lc, wp_m1, wp_m2, wp_mN, wp_aNil, wp_aCons, wp_mC, wp_var, wp_if, wp_and, wp_or, wp_not, wp_chain, wp_mt, wp_get, wp_isi, wp_fld, wp_sl, wp_oNone, wp_oSome, wp_tBool, wp_tTru, wp_tNot, wp_tAnd, wp_tOr, wp_tAll, wp_gSlot, wp_gsNil, wp_gsCons, wp_gTup, wp_gSub, wp_iAny, wp_iSeq, wp_iTup, wp_iStr, wp_iRange1, wp_iRange2, wp_iZip, wS_fld, wp_make, seqQ, rtQ, turnQ, List.getElem?_cons_zero, List.getElem?_cons_succ, List.set_cons_zero, List.set_cons_succ, wipeD, if_true, if_false, Bool.false_eq_true, Bool.true_eq_false, reduceIte, w_add, w_iadd, w_iaddS, w_addS, w_addL, w_addT, w_sub, w_mul, w_mod, w_fdiv, w_pow, w_neg, w_lt, w_le, w_gt, w_ge, w_eqI, w_neI, w_eqT, w_neT, w_isN, w_isnotN, w_isB, w_isNB, w_len, w_lenT, w_int, w_intB, w_abs, w_min, w_max, w_tup, w_lst, w_new, w_list, w_listN, w_ix, w_ixT, w_ixD, w_inT1, w_notinT1, w_inT2, w_notinT2, w_inT3, w_notinT3, w_inT4, w_notinT4, w_inT5, w_notinT5, w_inT6, w_notinT6, w_inT7, w_notinT7, w_inT8, w_notinT8, w_sl1, at_0, at_1, at_2, at_3, at_4, at_5, hasTy_list, hasTy_str, isNonD, flatD, sEq_T, List.all_cons, List.all_nil, List.any_cons, List.any_nil, Bool.and_true, Bool.true_and, Bool.or_false, Bool.or_true, Bool.true_or, Bool.false_or, Bool.not_true, Bool.not_false, List.length_cons, List.length_nil, Nat.zero_add, Nat.reduceAdd, line_eq, true_and, and_true, String.reduceBEq, Int.reduceBEq, decide_true, decide_false, Int.reduceLT, Int.reduceLE, beq_self_eq_true, Nat.reduceLeDiff]
  rw [decide_eq_true h6]
  exact k
theorem fits_k {a b : Int} {l : D} (h0 : 0 ≤ a) (hb : a ≤ b) (k : Q (.bl true) s) : wp (f_fits [.str "k", .int a, .int b, l] s) Q := by
  refine (wp_fn (n := 4) (tot := 4) (m := m_fits) rfl).mpr ?_
  show wS (m_fits [some (.str "k"), some (.int a), some (.int b), some l] s) _
  have e : (([("r", D.int 8), ("f", D.int 4)] : List (Str × D)).lookup (Str.ofString "k")) = none := by
    simp only [List.lookup_cons, str_beq, String.reduceBEq, List.lookup_nil]
  unfold m_fits c_BOUNDS d_BOUNDS
  simp only [wp_ok, wp_bad, wp_bind, wS_ok, wS_bad, wS_cons, wS_nil, wS_pass, wS_break, wS_cont, wS_never, wS_set, wS_expr, wS_ret, wS_retN, wS_if, wS_asg, wS_aug, wS_for, wp_lc, wp_m1, wp_m2, wp_mN, wp_aNil, wp_aCons, wp_mC, wp_var, wp_if, wp_and, wp_or, wp_not, wp_chain, wp_mt, wp_get, wp_isi, wp_fld, wp_sl, wp_oNone, wp_oSome, wp_tBool, wp_tTru, wp_tNot, wp_tAnd, wp_tOr, wp_tAll, wp_gSlot, wp_gsNil, wp_gsCons, wp_gTup, wp_gSub, wp_iAny, wp_iSeq, wp_iTup, wp_iStr, wp_iRange1, wp_iRange2, wp_iZip, wS_fld, wp_make, seqQ, rtQ, turnQ, List.getElem?_cons_zero, List.getElem?_cons_succ, List.set_cons_zero, List.set_cons_succ, wipeD, if_true, if_false, Bool.false_eq_true, Bool.true_eq_false, reduceIte, w_add, w_iadd, w_iaddS, w_addS, w_addL, w_addT, w_sub, w_mul, w_mod, w_fdiv, w_pow, w_neg, w_lt, w_le, w_gt, w_ge, w_eqI, w_neI, w_eqT, w_neT, w_isN, w_isnotN, w_isB, w_isNB, w_len, w_lenT, w_int, w_intB, w_abs, w_min, w_max, w_tup, w_lst, w_new, w_list, w_listN, w_ix, w_ixT, w_ixD, w_inT1, w_notinT1, w_inT2, w_notinT2, w_inT3, w_notinT3, w_inT4, w_notinT4, w_inT5, w_notinT5, w_inT6, w_notinT6, w_inT7, w_notinT7, w_inT8, w_notinT8, w_sl1, at_0, at_1, at_2, at_3, at_4, at_5, hasTy_list, hasTy_str, isNonD, flatD, sEq_T, List.all_cons, List.all_nil, List.any_cons, List.any_nil, Bool.and_true, Bool.true_and, Bool.or_false, Bool.or_true, Bool.true_or, Bool.false_or, Bool.not_true, Bool.not_false, List.length_cons, List.length_nil, Nat.zero_add, Nat.reduceAdd, line_eq, true_and, and_true, String.reduceBEq, Int.reduceBEq, decide_true, decide_false, Int.reduceLT, Int.reduceLE, beq_self_eq_true, Nat.reduceLeDiff]
  simp only [w_inD, e, Option.isSome_none, Bool.false_eq_true, if_false]
  try simp only [wp_ok, wp_bad, wp_bind, wS_ok, wS_bad, wS_cons, wS_nil, wS_pass, wS_break, wS_cont, wS_never, wS_set, wS_expr, wS_ret, wS_retN, wS_if, wS_asg, wS_aug, wS_for, wp_lc, wp_m1, wp_m2, wp_mN, wp_aNil, wp_aCons, wp_mC, wp_var, wp_if, wp_and, wp_or, wp_not, wp_chain, wp_mt, wp_get, wp_isi, wp_fld, wp_sl, wp_oNone, wp_oSome, wp_tBool, wp_tTru, wp_tNot, wp_tAnd, wp_tOr, wp_tAll, wp_gSlot, wp_gsNil, wp_gsCons, wp_gTup, wp_gSub, wp_iAny, wp_iSeq, wp_iTup, wp_iStr, wp_iRange1, wp_iRange2, wp_iZip, wS_fld, wp_make, seqQ, rtQ, turnQ, List.getElem?_cons_zero, List.getElem?_cons_succ, List.set_cons_zero, List.set_cons_succ, wipeD, if_true, if_false, Bool.false_eq_true, Bool.true_eq_false, reduceIte, w_add, w_iadd, w_iaddS, w_addS, w_addL, w_addT, w_sub, w_mul, w_mod, w_fdiv, w_pow, w_neg, w_lt, w_le, w_gt, w_ge, w_eqI, w_neI, w_eqT, w_neT, w_isN, w_isnotN, w_isB, w_isNB, w_len, w_lenT, w_int, w_intB, w_abs, w_min, w_max, w_tup, w_lst, w_new, w_list, w_listN, w_ix, w_ixT, w_ixD, w_inT1, w_notinT1, w_inT2, w_notinT2, w_inT3, w_notinT3, w_inT4, w_notinT4, w_inT5, w_notinT5, w_inT6, w_notinT6, w_inT7, w_notinT7, w_inT8, w_notinT8, w_sl1, at_0, at_1, at_2, at_3, at_4, at_5, hasTy_list, hasTy_str, isNonD, flatD, sEq_T, List.all_cons, List.all_nil, List.any_cons, List.any_nil, Bool.and_true, Bool.true_and, Bool.or_false, Bool.or_true, Bool.true_or, Bool.false_or, Bool.not_true, Bool.not_false, List.length_cons, List.length_nil, Nat.zero_add, Nat.reduceAdd, line_eq, true_and, and_true, String.reduceBEq, Int.reduceBEq, decide_true, decide_false, Int.reduceLT, Int.reduceLE, beq_self_eq_true, Nat.reduceLeDiff]
  rw [decide_eq_true h0]
  simp only [wp_ok, wp_bad, wp_bind, wS_ok, wS_bad, wS_cons, wS_nil, wS_pass, wS_break, wS_cont, wS_never, wS_set, wS_expr, wS_ret, wS_retN, wS_if, wS_asg, wS_aug, wS_for, wp_lc, wp_m1, wp_m2, wp_mN, wp_aNil, wp_aCons, wp_mC, wp_var, wp_if, wp_and, wp_or, wp_not, wp_chain, wp_mt, wp_get, wp_isi, wp_fld, wp_sl, wp_oNone, wp_oSome, wp_tBool, wp_tTru, wp_tNot, wp_tAnd, wp_tOr, wp_tAll, wp_gSlot, wp_gsNil, wp_gsCons, wp_gTup, wp_gSub, wp_iAny, wp_iSeq, wp_iTup, wp_iStr, wp_iRange1, wp_iRange2, wp_iZip, wS_fld, wp_make, seqQ, rtQ, turnQ, List.getElem?_cons_zero, List.getElem?_cons_succ, List.set_cons_zero, List.set_cons_succ, wipeD, if_true, if_false, Bool.false_eq_true, Bool.true_eq_false, reduceIte, w_add, w_iadd, w_iaddS, w_addS, w_addL, w_addT, w_sub, w_mul, w_mod, w_fdiv, w_pow, w_neg, w_lt, w_le, w_gt, w_ge, w_eqI, w_neI, w_eqT, w_neT, w_isN, w_isnotN, w_isB, w_isNB, w_len, w_lenT, w_int, w_intB, w_abs, w_min, w_max, w_tup, w_lst, w_new, w_list, w_listN, w_ix, w_ixT, w_ixD, w_inT1, w_notinT1, w_inT2, w_notinT2, w_inT3, w_notinT3, w_inT4, w_notinT4, w_inT5, w_notinT5, w_inT6, w_notinT6, w_inT7, w_notinT7, w_inT8, w_notinT8, w_sl1, at_0, at_1, at_2, at_3, at_4, at_5, hasTy_list, hasTy_str, isNonD, flatD, sEq_T, List.all_cons, List.all_nil, List.any_cons, List.any_nil, Bool.and_true, Bool.true_and, Bool.or_false, Bool.or_true, Bool.true_or, Bool.false_or, Bool.not_true, Bool.not_false, List.length_cons, List.length_nil, Nat.zero_add, Nat.reduceAdd, line_eq, true_and, and_true, String.reduceBEq, Int.reduceBEq, decide_true, decide_false, Int.reduceLT, Int.reduceLE, beq_self_eq_true, Nat.reduceLeDiff]
  rw [decide_eq_true hb]
  exact k
/-- the shape of a word -/
def Ord.shape : Ord → List String
  | .put _ _ => ["r", "n"]
  | .copy _ _ => ["r", "r"]
  | .add _ _ _ => ["r", "r", "r"]
  | .times _ _ _ => ["r", "r", "n"]
  | .over _ _ => ["r", "d"]
  | .rest _ _ => ["r", "d"]
  | .less _ _ _ => ["r", "r", "k"]
  | .same _ _ _ => ["r", "r", "k"]
  | .skip _ => ["k"]
  | .answer _ => ["r"]
  | .lose => []
theorem shape_wp (o : Ord) (k : ∀ z : String, (Str.ofString z).cps.toList.map (fun c => D.str ⟨#[c]⟩) = o.shape.map (fun x => .str (Str.ofString x)) → (Str.ofString z).length = o.shape.length → Q (.str (Str.ofString z)) s) : wp (f_shape_of [.str "orders", .str (Str.ofString o.word)] s) Q := by
  refine (wp_fn (n := 2) (tot := 2) (m := m_shape_of) rfl).mpr ?_
  show wS (m_shape_of [some (.str "orders"), some (.str (Str.ofString o.word))] s) _
  have one : ∀ c : Nat, ∀ x : String, (Str.ofString x).cps = #[c] → D.str ⟨#[c]⟩ = D.str (Str.ofString x) := fun c x h => by rw [← h]
  have er : D.str ⟨#[114]⟩ = D.str (Str.ofString "r") := one _ _ (by decide +kernel)
  have en : D.str ⟨#[110]⟩ = D.str (Str.ofString "n") := one _ _ (by decide +kernel)
  have ed : D.str ⟨#[100]⟩ = D.str (Str.ofString "d") := one _ _ (by decide +kernel)
  have ek : D.str ⟨#[107]⟩ = D.str (Str.ofString "k") := one _ _ (by decide +kernel)
  unfold m_shape_of c_NUMBER_ORDERS d_NUMBER_ORDERS
  simp only [wp_ok, wp_bad, wp_bind, wS_ok, wS_bad, wS_cons, wS_nil, wS_pass, wS_break, wS_cont, wS_never, wS_set, wS_expr, wS_ret, wS_retN, wS_if, wS_asg, wS_aug, wS_for, wp_lc, wp_m1, wp_m2, wp_mN, wp_aNil, wp_aCons, wp_mC, wp_var, wp_if, wp_and, wp_or, wp_not, wp_chain, wp_mt, wp_get, wp_isi, wp_fld, wp_sl, wp_oNone, wp_oSome, wp_tBool, wp_tTru, wp_tNot, wp_tAnd, wp_tOr, wp_tAll, wp_gSlot, wp_gsNil, wp_gsCons, wp_gTup, wp_gSub, wp_iAny, wp_iSeq, wp_iTup, wp_iStr, wp_iRange1, wp_iRange2, wp_iZip, wS_fld, wp_make, seqQ, rtQ, turnQ, List.getElem?_cons_zero, List.getElem?_cons_succ, List.set_cons_zero, List.set_cons_succ, wipeD, if_true, if_false, Bool.false_eq_true, Bool.true_eq_false, reduceIte, w_add, w_iadd, w_iaddS, w_addS, w_addL, w_addT, w_sub, w_mul, w_mod, w_fdiv, w_pow, w_neg, w_lt, w_le, w_gt, w_ge, w_eqI, w_neI, w_eqT, w_neT, w_isN, w_isnotN, w_isB, w_isNB, w_len, w_lenT, w_int, w_intB, w_abs, w_min, w_max, w_tup, w_lst, w_new, w_list, w_listN, w_ix, w_ixT, w_ixD, w_inT1, w_notinT1, w_inT2, w_notinT2, w_inT3, w_notinT3, w_inT4, w_notinT4, w_inT5, w_notinT5, w_inT6, w_notinT6, w_inT7, w_notinT7, w_inT8, w_notinT8, w_sl1, at_0, at_1, at_2, at_3, at_4, at_5, hasTy_list, hasTy_str, isNonD, flatD, sEq_T, List.all_cons, List.all_nil, List.any_cons, List.any_nil, Bool.and_true, Bool.true_and, Bool.or_false, Bool.or_true, Bool.true_or, Bool.false_or, Bool.not_true, Bool.not_false, List.length_cons, List.length_nil, Nat.zero_add, Nat.reduceAdd, line_eq, true_and, and_true, String.reduceBEq, Int.reduceBEq, decide_true, decide_false, Int.reduceLT, Int.reduceLE, beq_self_eq_true, Nat.reduceLeDiff]
  cases o <;> simp only [Ord.word, List.lookup_cons, str_beq, String.reduceBEq, Option.getD_some] <;> refine k _ ?_ (by simp only [Ord.shape, List.length_cons, List.length_nil]; decide +kernel)
  · rw [show (Str.ofString "rn").cps.toList = [114, 110] from by decide +kernel]; simp only [List.map_cons, List.map_nil, er, en, Ord.shape]
  · rw [show (Str.ofString "rr").cps.toList = [114, 114] from by decide +kernel]; simp only [List.map_cons, List.map_nil, er, Ord.shape]
  · rw [show (Str.ofString "rrr").cps.toList = [114, 114, 114] from by decide +kernel]; simp only [List.map_cons, List.map_nil, er, Ord.shape]
  · rw [show (Str.ofString "rrn").cps.toList = [114, 114, 110] from by decide +kernel]; simp only [List.map_cons, List.map_nil, er, en, Ord.shape]
  · rw [show (Str.ofString "rd").cps.toList = [114, 100] from by decide +kernel]; simp only [List.map_cons, List.map_nil, er, ed, Ord.shape]
  · rw [show (Str.ofString "rd").cps.toList = [114, 100] from by decide +kernel]; simp only [List.map_cons, List.map_nil, er, ed, Ord.shape]
  · rw [show (Str.ofString "rrk").cps.toList = [114, 114, 107] from by decide +kernel]; simp only [List.map_cons, List.map_nil, er, ek, Ord.shape]
  · rw [show (Str.ofString "rrk").cps.toList = [114, 114, 107] from by decide +kernel]; simp only [List.map_cons, List.map_nil, er, ek, Ord.shape]
  · rw [show (Str.ofString "k").cps.toList = [107] from by decide +kernel]; simp only [List.map_cons, List.map_nil, ek, Ord.shape]
  · rw [show (Str.ofString "r").cps.toList = [114] from by decide +kernel]; simp only [List.map_cons, List.map_nil, er, Ord.shape]
  · rw [show (Str.ofString "").cps.toList = [] from by decide +kernel]; simp only [List.map_nil, Ord.shape]
/-- what stands behind the word -/
def Ord.args : Ord → List Int
  | .put r n => [r, n]
  | .copy a b => [a, b]
  | .add a b c => [a, b, c]
  | .times a b n => [a, b, n]
  | .over a d => [a, d]
  | .rest a d => [a, d]
  | .less a b k => [a, b, k]
  | .same a b k => [a, b, k]
  | .skip k => [k]
  | .answer a => [a]
  | .lose => []
theorem d_args (o : Ord) : o.d = .tup (.str (Str.ofString o.word) :: o.args.map .int) := by cases o <;> rfl
theorem args_len (o : Ord) : o.args.length = o.shape.length := by cases o <;> rfl
/-- each thing behind the word fits -/
def Fit (b : Int) : List String → List Int → Prop
  | x :: xs, a :: as => (∀ {s : S} {Q : D → S → Prop}, Q (.bl true) s → wp (f_fits [.str (Str.ofString x), .int a, .int b, .str ""] s) Q) ∧ Fit b xs as
  | _, _ => True
theorem fit_ok {b : Int} {o : Ord} (h : o.ok b) : Fit b o.shape o.args := by
  cases o with
  | put r n => exact ⟨fun k => fits_r h.1 k, fun k => fits_n k, trivial⟩
  | copy x y => exact ⟨fun k => fits_r h.1 k, fun k => fits_r h.2 k, trivial⟩
  | add x y z => exact ⟨fun k => fits_r h.1 k, fun k => fits_r h.2.1 k, fun k => fits_r h.2.2 k, trivial⟩
  | times x y z => exact ⟨fun k => fits_r h.1 k, fun k => fits_r h.2.1 k, fun k => fits_n k, trivial⟩
  | over x d => exact ⟨fun k => fits_r h.1 k, fun k => fits_d h.2.1 h.2.2 k, trivial⟩
  | rest x d => exact ⟨fun k => fits_r h.1 k, fun k => fits_d h.2.1 h.2.2 k, trivial⟩
  | less x y z => exact ⟨fun k => fits_r h.1 k, fun k => fits_r h.2.1 k, fun k => fits_k h.2.2.1 h.2.2.2 k, trivial⟩
  | same x y z => exact ⟨fun k => fits_r h.1 k, fun k => fits_r h.2.1 k, fun k => fits_k h.2.2.1 h.2.2.2 k, trivial⟩
  | skip z => exact ⟨fun k => fits_k h.1 h.2 k, trivial⟩
  | answer x => exact ⟨fun k => fits_r h k, trivial⟩
  | lose => trivial
def fit_g : MG := gTupD 2 (gsCons (gSlot 5) (gsCons (gSlot 6) gsNil))
def fit_b : MS := (sIf (tNot1 (tTru dTru (mN f_fits (aCons (mVar 5) (aCons (mVar 6) (aCons (mVar 2) (aCons (mVar 3) aNil)))))))
  (sRet (mC (.bl false)))
  ssNil)
theorem fit_loop {b : Int} {all : List D} {v0 v1 v4 : Option D} {Q' : C → S → Prop} : ∀ (xs : List String) (as : List Int) (v5 v6 : Option D), Fit b xs as → (∀ v5 v6, Q' (.nx [v0, v1, some (.int b), some (.str ""), v4, v5, v6]) s) →
    wS (forL none all fit_g fit_b (zipD (xs.map fun x => .str (Str.ofString x)) (as.map .int)) [v0, v1, some (.int b), some (.str ""), v4, v5, v6] s) Q'
  | [], as, v5, v6, _, k => by
    have e : zipD (([] : List String).map fun x => D.str (Str.ofString x)) (as.map .int) = [] := by cases as <;> rfl
    rw [e, wS_forL_nil]
    exact ⟨trivial, k _ _⟩
  | x :: xs, [], v5, v6, _, k => by
    have e : zipD ((x :: xs).map fun x => D.str (Str.ofString x)) (([] : List Int).map .int) = [] := rfl
    rw [e, wS_forL_nil]
    exact ⟨trivial, k _ _⟩
  | x :: xs, a :: as, v5, v6, h, k => by
    have e : zipD ((x :: xs).map fun x => D.str (Str.ofString x)) ((a :: as).map .int) = .tup [.str (Str.ofString x), .int a] :: zipD (xs.map fun x => .str (Str.ofString x)) (as.map .int) := rfl
    rw [e, wS_forL_cons]
    refine ⟨trivial, ?_⟩
    unfold fit_g
    simp only [wp_ok, wp_bad, wp_bind, wS_ok, wS_bad, wS_cons, wS_nil, wS_pass, wS_break, wS_cont, wS_never, wS_set, wS_expr, wS_ret, wS_retN, wS_if, wS_asg, wS_aug, wS_for, wp_lc, wp_m1, wp_m2, wp_mN, wp_aNil, wp_aCons, wp_mC, wp_var, wp_if, wp_and, wp_or, wp_not, wp_chain, wp_mt, wp_get, wp_isi, wp_fld, wp_sl, wp_oNone, wp_oSome, wp_tBool, wp_tTru, wp_tNot, wp_tAnd, wp_tOr, wp_tAll, wp_gSlot, wp_gsNil, wp_gsCons, wp_gTup, wp_gSub, wp_iAny, wp_iSeq, wp_iTup, wp_iStr, wp_iRange1, wp_iRange2, wp_iZip, wS_fld, wp_make, seqQ, rtQ, turnQ, List.getElem?_cons_zero, List.getElem?_cons_succ, List.set_cons_zero, List.set_cons_succ, wipeD, if_true, if_false, Bool.false_eq_true, Bool.true_eq_false, reduceIte, w_add, w_iadd, w_iaddS, w_addS, w_addL, w_addT, w_sub, w_mul, w_mod, w_fdiv, w_pow, w_neg, w_lt, w_le, w_gt, w_ge, w_eqI, w_neI, w_eqT, w_neT, w_isN, w_isnotN, w_isB, w_isNB, w_len, w_lenT, w_int, w_intB, w_abs, w_min, w_max, w_tup, w_lst, w_new, w_list, w_listN, w_ix, w_ixT, w_ixD, w_inT1, w_notinT1, w_inT2, w_notinT2, w_inT3, w_notinT3, w_inT4, w_notinT4, w_inT5, w_notinT5, w_inT6, w_notinT6, w_inT7, w_notinT7, w_inT8, w_notinT8, w_sl1, at_0, at_1, at_2, at_3, at_4, at_5, hasTy_list, hasTy_str, isNonD, flatD, sEq_T, List.all_cons, List.all_nil, List.any_cons, List.any_nil, Bool.and_true, Bool.true_and, Bool.or_false, Bool.or_true, Bool.true_or, Bool.false_or, Bool.not_true, Bool.not_false, List.length_cons, List.length_nil, Nat.zero_add, Nat.reduceAdd, line_eq, true_and, and_true, String.reduceBEq, Int.reduceBEq, decide_true, decide_false, Int.reduceLT, Int.reduceLE, beq_self_eq_true, Nat.reduceLeDiff]
    rw [show fit_b = _ from by unfold fit_b; rfl]
    simp only [wp_ok, wp_bad, wp_bind, wS_ok, wS_bad, wS_cons, wS_nil, wS_pass, wS_break, wS_cont, wS_never, wS_set, wS_expr, wS_ret, wS_retN, wS_if, wS_asg, wS_aug, wS_for, wp_lc, wp_m1, wp_m2, wp_mN, wp_aNil, wp_aCons, wp_mC, wp_var, wp_if, wp_and, wp_or, wp_not, wp_chain, wp_mt, wp_get, wp_isi, wp_fld, wp_sl, wp_oNone, wp_oSome, wp_tBool, wp_tTru, wp_tNot, wp_tAnd, wp_tOr, wp_tAll, wp_gSlot, wp_gsNil, wp_gsCons, wp_gTup, wp_gSub, wp_iAny, wp_iSeq, wp_iTup, wp_iStr, wp_iRange1, wp_iRange2, wp_iZip, wS_fld, wp_make, seqQ, rtQ, turnQ, List.getElem?_cons_zero, List.getElem?_cons_succ, List.set_cons_zero, List.set_cons_succ, wipeD, if_true, if_false, Bool.false_eq_true, Bool.true_eq_false, reduceIte, w_add, w_iadd, w_iaddS, w_addS, w_addL, w_addT, w_sub, w_mul, w_mod, w_fdiv, w_pow, w_neg, w_lt, w_le, w_gt, w_ge, w_eqI, w_neI, w_eqT, w_neT, w_isN, w_isnotN, w_isB, w_isNB, w_len, w_lenT, w_int, w_intB, w_abs, w_min, w_max, w_tup, w_lst, w_new, w_list, w_listN, w_ix, w_ixT, w_ixD, w_inT1, w_notinT1, w_inT2, w_notinT2, w_inT3, w_notinT3, w_inT4, w_notinT4, w_inT5, w_notinT5, w_inT6, w_notinT6, w_inT7, w_notinT7, w_inT8, w_notinT8, w_sl1, at_0, at_1, at_2, at_3, at_4, at_5, hasTy_list, hasTy_str, isNonD, flatD, sEq_T, List.all_cons, List.all_nil, List.any_cons, List.any_nil, Bool.and_true, Bool.true_and, Bool.or_false, Bool.or_true, Bool.true_or, Bool.false_or, Bool.not_true, Bool.not_false, List.length_cons, List.length_nil, Nat.zero_add, Nat.reduceAdd, line_eq, true_and, and_true, String.reduceBEq, Int.reduceBEq, decide_true, decide_false, Int.reduceLT, Int.reduceLE, beq_self_eq_true, Nat.reduceLeDiff]
    refine h.1 ?_
    simp only [dTru, Bool.not_true, Bool.false_eq_true, if_false]
    exact fit_loop xs as _ _ h.2 k
theorem allowed_wp {b : Int} {o : Ord} (h : o.ok b) (k : Q (.bl true) s) : wp (f_allowed [o.d, .str "orders", .int b, .str ""] s) Q := by
  refine (wp_fn (n := 4) (tot := 7) (m := m_allowed) rfl).mpr ?_
  show wS (m_allowed [some o.d, some (.str "orders"), some (.int b), some (.str ""), none, none, none] s) _
  have hl : o.args.length ≤ 3 := by cases o <;> simp [Ord.args]
  have hlen : (D.str (Str.ofString o.word) :: o.args.map D.int).length = o.args.length + 1 := by simp
  have hz : (((o.args.length + 1 : Nat) : Int) == 0) = false := by simp; omega
  unfold m_allowed
  rw [d_args]
  simp only [wp_ok, wp_bad, wp_bind, wS_ok, wS_bad, wS_cons, wS_nil, wS_pass, wS_break, wS_cont, wS_never, wS_set, wS_expr, wS_ret, wS_retN, wS_if, wS_asg, wS_aug, wS_for, wp_lc, wp_m1, wp_m2, wp_mN, wp_aNil, wp_aCons, wp_mC, wp_var, wp_if, wp_and, wp_or, wp_not, wp_chain, wp_mt, wp_get, wp_isi, wp_fld, wp_sl, wp_oNone, wp_oSome, wp_tBool, wp_tTru, wp_tNot, wp_tAnd, wp_tOr, wp_tAll, wp_gSlot, wp_gsNil, wp_gsCons, wp_gTup, wp_gSub, wp_iAny, wp_iSeq, wp_iTup, wp_iStr, wp_iRange1, wp_iRange2, wp_iZip, wS_fld, wp_make, seqQ, rtQ, turnQ, List.getElem?_cons_zero, List.getElem?_cons_succ, List.set_cons_zero, List.set_cons_succ, wipeD, if_true, if_false, Bool.false_eq_true, Bool.true_eq_false, reduceIte, w_add, w_iadd, w_iaddS, w_addS, w_addL, w_addT, w_sub, w_mul, w_mod, w_fdiv, w_pow, w_neg, w_lt, w_le, w_gt, w_ge, w_eqI, w_neI, w_eqT, w_neT, w_isN, w_isnotN, w_isB, w_isNB, w_len, w_lenT, w_int, w_intB, w_abs, w_min, w_max, w_tup, w_lst, w_new, w_list, w_listN, w_ix, w_ixT, w_ixD, w_inT1, w_notinT1, w_inT2, w_notinT2, w_inT3, w_notinT3, w_inT4, w_notinT4, w_inT5, w_notinT5, w_inT6, w_notinT6, w_inT7, w_notinT7, w_inT8, w_notinT8, w_sl1, at_0, at_1, at_2, at_3, at_4, at_5, hasTy_list, hasTy_str, isNonD, flatD, sEq_T, List.all_cons, List.all_nil, List.any_cons, List.any_nil, Bool.and_true, Bool.true_and, Bool.or_false, Bool.or_true, Bool.true_or, Bool.false_or, Bool.not_true, Bool.not_false, List.length_cons, List.length_nil, Nat.zero_add, Nat.reduceAdd, line_eq, true_and, and_true, String.reduceBEq, Int.reduceBEq, decide_true, decide_false, Int.reduceLT, Int.reduceLE, beq_self_eq_true, Nat.reduceLeDiff]
  rw [List.length_map, hz]
  simp only [wp_ok, wp_bad, wp_bind, wS_ok, wS_bad, wS_cons, wS_nil, wS_pass, wS_break, wS_cont, wS_never, wS_set, wS_expr, wS_ret, wS_retN, wS_if, wS_asg, wS_aug, wS_for, wp_lc, wp_m1, wp_m2, wp_mN, wp_aNil, wp_aCons, wp_mC, wp_var, wp_if, wp_and, wp_or, wp_not, wp_chain, wp_mt, wp_get, wp_isi, wp_fld, wp_sl, wp_oNone, wp_oSome, wp_tBool, wp_tTru, wp_tNot, wp_tAnd, wp_tOr, wp_tAll, wp_gSlot, wp_gsNil, wp_gsCons, wp_gTup, wp_gSub, wp_iAny, wp_iSeq, wp_iTup, wp_iStr, wp_iRange1, wp_iRange2, wp_iZip, wS_fld, wp_make, seqQ, rtQ, turnQ, List.getElem?_cons_zero, List.getElem?_cons_succ, List.set_cons_zero, List.set_cons_succ, wipeD, if_true, if_false, Bool.false_eq_true, Bool.true_eq_false, reduceIte, w_add, w_iadd, w_iaddS, w_addS, w_addL, w_addT, w_sub, w_mul, w_mod, w_fdiv, w_pow, w_neg, w_lt, w_le, w_gt, w_ge, w_eqI, w_neI, w_eqT, w_neT, w_isN, w_isnotN, w_isB, w_isNB, w_len, w_lenT, w_int, w_intB, w_abs, w_min, w_max, w_tup, w_lst, w_new, w_list, w_listN, w_ix, w_ixT, w_ixD, w_inT1, w_notinT1, w_inT2, w_notinT2, w_inT3, w_notinT3, w_inT4, w_notinT4, w_inT5, w_notinT5, w_inT6, w_notinT6, w_inT7, w_notinT7, w_inT8, w_notinT8, w_sl1, at_0, at_1, at_2, at_3, at_4, at_5, hasTy_list, hasTy_str, isNonD, flatD, sEq_T, List.all_cons, List.all_nil, List.any_cons, List.any_nil, Bool.and_true, Bool.true_and, Bool.or_false, Bool.or_true, Bool.true_or, Bool.false_or, Bool.not_true, Bool.not_false, List.length_cons, List.length_nil, Nat.zero_add, Nat.reduceAdd, line_eq, true_and, and_true, String.reduceBEq, Int.reduceBEq, decide_true, decide_false, Int.reduceLT, Int.reduceLE, beq_self_eq_true, Nat.reduceLeDiff]
  refine shape_wp o fun z hz1 hz2 => ?_
  simp only [wp_ok, wp_bad, wp_bind, wS_ok, wS_bad, wS_cons, wS_nil, wS_pass, wS_break, wS_cont, wS_never, wS_set, wS_expr, wS_ret, wS_retN, wS_if, wS_asg, wS_aug, wS_for, wp_lc, wp_m1, wp_m2, wp_mN, wp_aNil, wp_aCons, wp_mC, wp_var, wp_if, wp_and, wp_or, wp_not, wp_chain, wp_mt, wp_get, wp_isi, wp_fld, wp_sl, wp_oNone, wp_oSome, wp_tBool, wp_tTru, wp_tNot, wp_tAnd, wp_tOr, wp_tAll, wp_gSlot, wp_gsNil, wp_gsCons, wp_gTup, wp_gSub, wp_iAny, wp_iSeq, wp_iTup, wp_iStr, wp_iRange1, wp_iRange2, wp_iZip, wS_fld, wp_make, seqQ, rtQ, turnQ, List.getElem?_cons_zero, List.getElem?_cons_succ, List.set_cons_zero, List.set_cons_succ, wipeD, if_true, if_false, Bool.false_eq_true, Bool.true_eq_false, reduceIte, w_add, w_iadd, w_iaddS, w_addS, w_addL, w_addT, w_sub, w_mul, w_mod, w_fdiv, w_pow, w_neg, w_lt, w_le, w_gt, w_ge, w_eqI, w_neI, w_eqT, w_neT, w_isN, w_isnotN, w_isB, w_isNB, w_len, w_lenT, w_int, w_intB, w_abs, w_min, w_max, w_tup, w_lst, w_new, w_list, w_listN, w_ix, w_ixT, w_ixD, w_inT1, w_notinT1, w_inT2, w_notinT2, w_inT3, w_notinT3, w_inT4, w_notinT4, w_inT5, w_notinT5, w_inT6, w_notinT6, w_inT7, w_notinT7, w_inT8, w_notinT8, w_sl1, at_0, at_1, at_2, at_3, at_4, at_5, hasTy_list, hasTy_str, isNonD, flatD, sEq_T, List.all_cons, List.all_nil, List.any_cons, List.any_nil, Bool.and_true, Bool.true_and, Bool.or_false, Bool.or_true, Bool.true_or, Bool.false_or, Bool.not_true, Bool.not_false, List.length_cons, List.length_nil, Nat.zero_add, Nat.reduceAdd, line_eq, true_and, and_true, String.reduceBEq, Int.reduceBEq, decide_true, decide_false, Int.reduceLT, Int.reduceLE, beq_self_eq_true, Nat.reduceLeDiff]
  have e1 : (((o.args.length + 1 : Nat) : Int) == ((Str.ofString z).length : Nat) + 1) = true := by
    rw [hz2, ← args_len]; simp
  rw [w_lenS]
  refine ⟨line_of (by rw [hz2, ← args_len]; omega), ?_⟩
  rw [w_add, w_neI, e1]
  simp only [wp_ok, wp_bad, wp_bind, wS_ok, wS_bad, wS_cons, wS_nil, wS_pass, wS_break, wS_cont, wS_never, wS_set, wS_expr, wS_ret, wS_retN, wS_if, wS_asg, wS_aug, wS_for, wp_lc, wp_m1, wp_m2, wp_mN, wp_aNil, wp_aCons, wp_mC, wp_var, wp_if, wp_and, wp_or, wp_not, wp_chain, wp_mt, wp_get, wp_isi, wp_fld, wp_sl, wp_oNone, wp_oSome, wp_tBool, wp_tTru, wp_tNot, wp_tAnd, wp_tOr, wp_tAll, wp_gSlot, wp_gsNil, wp_gsCons, wp_gTup, wp_gSub, wp_iAny, wp_iSeq, wp_iTup, wp_iStr, wp_iRange1, wp_iRange2, wp_iZip, wS_fld, wp_make, seqQ, rtQ, turnQ, List.getElem?_cons_zero, List.getElem?_cons_succ, List.set_cons_zero, List.set_cons_succ, wipeD, if_true, if_false, Bool.false_eq_true, Bool.true_eq_false, reduceIte, w_add, w_iadd, w_iaddS, w_addS, w_addL, w_addT, w_sub, w_mul, w_mod, w_fdiv, w_pow, w_neg, w_lt, w_le, w_gt, w_ge, w_eqI, w_neI, w_eqT, w_neT, w_isN, w_isnotN, w_isB, w_isNB, w_len, w_lenT, w_int, w_intB, w_abs, w_min, w_max, w_tup, w_lst, w_new, w_list, w_listN, w_ix, w_ixT, w_ixD, w_inT1, w_notinT1, w_inT2, w_notinT2, w_inT3, w_notinT3, w_inT4, w_notinT4, w_inT5, w_notinT5, w_inT6, w_notinT6, w_inT7, w_notinT7, w_inT8, w_notinT8, w_sl1, at_0, at_1, at_2, at_3, at_4, at_5, hasTy_list, hasTy_str, isNonD, flatD, sEq_T, List.all_cons, List.all_nil, List.any_cons, List.any_nil, Bool.and_true, Bool.true_and, Bool.or_false, Bool.or_true, Bool.true_or, Bool.false_or, Bool.not_true, Bool.not_false, List.length_cons, List.length_nil, Nat.zero_add, Nat.reduceAdd, line_eq, true_and, and_true, String.reduceBEq, Int.reduceBEq, decide_true, decide_false, Int.reduceLT, Int.reduceLE, beq_self_eq_true, Nat.reduceLeDiff]
  simp only [fview]
  rw [hz1]
  exact fit_loop _ _ _ _ (fit_ok h) fun _ _ => by simp only [wp_ok, wp_bad, wp_bind, wS_ok, wS_bad, wS_cons, wS_nil, wS_pass, wS_break, wS_cont, wS_never, wS_set, wS_expr, wS_ret, wS_retN, wS_if, wS_asg, wS_aug, wS_for, wp_lc, wp_m1, wp_m2, wp_mN, wp_aNil, wp_aCons, wp_mC, wp_var, wp_if, wp_and, wp_or, wp_not, wp_chain, wp_mt, wp_get, wp_isi, wp_fld, wp_sl, wp_oNone, wp_oSome, wp_tBool, wp_tTru, wp_tNot, wp_tAnd, wp_tOr, wp_tAll, wp_gSlot, wp_gsNil, wp_gsCons, wp_gTup, wp_gSub, wp_iAny, wp_iSeq, wp_iTup, wp_iStr, wp_iRange1, wp_iRange2, wp_iZip, wS_fld, wp_make, seqQ, rtQ, turnQ, List.getElem?_cons_zero, List.getElem?_cons_succ, List.set_cons_zero, List.set_cons_succ, wipeD, if_true, if_false, Bool.false_eq_true, Bool.true_eq_false, reduceIte, w_add, w_iadd, w_iaddS, w_addS, w_addL, w_addT, w_sub, w_mul, w_mod, w_fdiv, w_pow, w_neg, w_lt, w_le, w_gt, w_ge, w_eqI, w_neI, w_eqT, w_neT, w_isN, w_isnotN, w_isB, w_isNB, w_len, w_lenT, w_int, w_intB, w_abs, w_min, w_max, w_tup, w_lst, w_new, w_list, w_listN, w_ix, w_ixT, w_ixD, w_inT1, w_notinT1, w_inT2, w_notinT2, w_inT3, w_notinT3, w_inT4, w_notinT4, w_inT5, w_notinT5, w_inT6, w_notinT6, w_inT7, w_notinT7, w_inT8, w_notinT8, w_sl1, at_0, at_1, at_2, at_3, at_4, at_5, hasTy_list, hasTy_str, isNonD, flatD, sEq_T, List.all_cons, List.all_nil, List.any_cons, List.any_nil, Bool.and_true, Bool.true_and, Bool.or_false, Bool.or_true, Bool.true_or, Bool.false_or, Bool.not_true, Bool.not_false, List.length_cons, List.length_nil, Nat.zero_add, Nat.reduceAdd, line_eq, true_and, and_true, String.reduceBEq, Int.reduceBEq, decide_true, decide_false, Int.reduceLT, Int.reduceLE, beq_self_eq_true, Nat.reduceLeDiff]; exact k
theorem check_wp {i : Nat} (hs : s[i]? = some (.lst (os.map Ord.d))) (hg : Good os) (k : Q .non s) : wp (f_check_orders [.str "orders", .ref i, .str ""] s) Q := by
  refine (wp_fn (n := 3) (tot := 4) (m := m_check_orders) rfl).mpr ?_
  show wS (m_check_orders [some (.str "orders"), some (.ref i), some (.str ""), none] s) _
  have hlen : (os.map Ord.d).length = os.length := List.length_map _
  have h33 := hg.1
  unfold m_check_orders
  rw [wS_for, wp_iRange1, wp_mN, wp_aCons, wp_var]
  simp only [List.getElem?_cons_zero, List.getElem?_cons_succ, wp_aNil, w_lenR hs, hlen]
  refine ⟨⟨by omega, by omega⟩, ?_⟩
  let I : List D → Rho → S → Prop := fun xs ρ s' => ∃ v3 : Option D, ρ = [some (.str "orders"), some (.ref i), some (.str ""), v3] ∧ s' = s ∧ ∀ x ∈ xs, ∃ j : Nat, x = .int j ∧ j < os.length
  refine wS_forN I ?_ ?_ _ _ _ ⟨none, rfl, rfl, fun x hx => ?_⟩
  · rintro ρ s' ⟨v3, rfl, rfl, _⟩
    exact k
  · rintro x xs ρ s' ⟨v3, rfl, rfl, hx⟩
    obtain ⟨j, rfl, hj⟩ := hx x List.mem_cons_self
    have ho : os[j]? = some os[j] := List.getElem?_eq_getElem hj
    generalize os[j] = o at ho
    have hok := hg.2 j o ho
    rw [wp_gSlot]
    simp only [List.set_cons_zero, List.set_cons_succ]
    rw [wS_if]
    simp only [wp_tNot, wp_tTru, wp_mN, wp_aCons, wp_aNil, wp_m2, wp_var, wp_mC, List.getElem?_cons_zero, List.getElem?_cons_succ, w_ixR hs, w_lenR hs, hlen, ord_ix ho, w_sub]
    refine allowed_wp hok ?_
    simp only [dTru, Bool.not_true, Bool.false_eq_true, if_false, wS_nil, turnQ]
    exact ⟨_, rfl, rfl, fun y hy => hx y (List.mem_cons_of_mem _ hy)⟩
  · obtain ⟨j, rfl, hj⟩ := rng_mem hx
    exact ⟨j, by congr 1; omega, by omega⟩
theorem frz_ord {s : S} {n k : Nat} (o : Ord) : frzD s n (k + 2) o.d = some o.d := by cases o <;> rfl
theorem frz_ords {s : S} {n k : Nat} : ∀ os : List Ord, allD (frzD s n (k + 2)) (os.map Ord.d) = some (os.map Ord.d)
  | [] => rfl
  | o :: os => by
    show (match frzD s n (k + 2) o.d, allD (frzD s n (k + 2)) (os.map Ord.d) with | some y, some ys => some (y :: ys) | _, _ => none) = _
    rw [frz_ord o, frz_ords os]
    rfl
theorem lt_ints {n : Nat} : ∀ xs : List Int, ltDs n (xs.map .int) = true
  | [] => rfl
  | x :: xs => by
    show (ltD n (.int x) && ltDs n (xs.map .int)) = true
    rw [lt_ints xs]
    rfl
theorem lt_ords {n : Nat} : ∀ os : List Ord, ltDs n (os.map Ord.d) = true
  | [] => rfl
  | o :: os => by
    show (ltD n o.d && ltDs n (os.map Ord.d)) = true
    rw [lt_ords os]
    cases o <;> rfl
theorem low_dk {L : List Int} {qs : List Ord} : Low (.lst (L.map .int)) (.lst (qs.map Ord.d)) := ⟨lt_ints L, lt_ords qs⟩
theorem make_wp {v0 v1 v2 v3 v5 v6 v7 v8 v9 : Option D} (hg : Good os) (hA : ltO 2 A = true) (k : Q (rec_ os) [A, .lst (os.map Ord.d)]) : wp (mFz (mMake "NumberRecipe" f_NumberRecipe_init (aCons (mVar 4) aNil)) [v0, v1, v2, v3, some (.ref 1), v5, v6, v7, v8, v9] [A, .lst (os.map Ord.d)]) Q := by
  have h33 := hg.1
  refine wp_mFz ?_
  rw [wp_make]
  simp only [wp_aCons, wp_aNil, wp_var, List.getElem?_cons_zero, List.getElem?_cons_succ]
  refine (wp_fn (n := 2) (tot := 2) (m := m_NumberRecipe_init) rfl).mpr ?_
  show wS (m_NumberRecipe_init [some (.ref 2), some (.ref 1)] [A, .lst (os.map Ord.d), .ins "NumberRecipe" []]) _
  unfold m_NumberRecipe_init c_MOST_ORDERS d_MOST_ORDERS
  rw [wS_cons, wS_if]
  simp only [wp_tBool, wp_m2, wp_mN, wp_aCons, wp_aNil, wp_var, wp_mC, List.getElem?_cons_zero, List.getElem?_cons_succ, w_lenR (s := [A, .lst (os.map Ord.d), .ins "NumberRecipe" []]) (n := 1) (xs := os.map Ord.d) rfl, w_gt, List.length_map]
  rw [if_neg (by simp; omega), wS_nil]
  simp only [seqQ]
  rw [wS_cons, wS_expr]
  simp only [wp_mN, wp_aCons, wp_aNil, wp_var, wp_mC, List.getElem?_cons_zero, List.getElem?_cons_succ]
  refine check_wp (os := os) rfl hg ?_
  simp only [seqQ]
  rw [wS_fld]
  simp only [wp_mN, wp_aCons, wp_aNil, wp_var, wp_mC, List.getElem?_cons_zero, List.getElem?_cons_succ, w_listR (s := [A, .lst (os.map Ord.d), .ins "NumberRecipe" []]) (n := 1) (xs := os.map Ord.d) rfl]
  refine ⟨⟨by simp, by decide⟩, ?_⟩
  simp only [rtQ, List.set_cons_zero, List.set_cons_succ, putFD]
  refine ⟨trivial, rec_ os, ?_, low_ok (A := A) (B := .lst (os.map Ord.d)) ⟨hA, lt_ords os⟩ _, k⟩
  have e : allD (frzD [A, .lst (os.map Ord.d), .ins "NumberRecipe" [("orders", .lst (os.map Ord.d))]] 2 18) [.lst (os.map Ord.d)] = some [.lst (os.map Ord.d)] := by
    show (match (allD (frzD _ 2 17) (os.map Ord.d)).map D.lst, allD (frzD _ 2 18) [] with | some y, some ys => some (y :: ys) | _, _ => none) = _
    rw [frz_ords (k := 15) os]
    rfl
  show (allF (frzD _ 2 19) [("orders", .lst (os.map Ord.d))]).map (D.ins "NumberRecipe") = _
  have e2 : frzD [A, .lst (os.map Ord.d), .ins "NumberRecipe" [("orders", .lst (os.map Ord.d))]] 2 19 (.lst (os.map Ord.d)) = some (.lst (os.map Ord.d)) := by
    show (allD (frzD _ 2 18) (os.map Ord.d)).map D.lst = _
    rw [frz_ords (k := 16) os]
    rfl
  simp only [allF, e2]
  rfl
theorem ords_ok (os : List Ord) : (os.map Ord.d).all (plainOk 7) = true := by
  rw [List.all_map]
  refine List.all_eq_true.mpr fun o _ => ?_
  cases o <;> simp [Ord.d, plainOk, strOk_of] <;> decide
def in_b : MS := (ssCons (sIf (tBool (m2 dNe (mN f_law_plain (aCons (mFld "orders" ["NumberRecipe"] (mVar 5)) aNil)) (mN f_law_plain (aCons (mVar 3) aNil))))
  (sRet (mC (.bl false)))
  ssNil)
  (ssCons (sFor (iAny (mVar 6)) (gSlot 8)
  (sIf (tNot1 (tTru dTru (mN f_law_asked (aCons (mVar 5) (aCons (mVar 3) (aCons (mVar 8) aNil))))))
  (sRet (mC (.bl false)))
  ssNil))
  (ssCons (sExpr (mMt "list" dAppend (mVar 4) (aCons (mN dTup (aCons (mC (.str "lose")) aNil)) aNil)))
  (sAsg (mN dTup (aCons (mC (.str "lose")) aNil)) (gSubD (mVar 4) (mC (.int 0)))))))
theorem in_wp {v0 v1 v2 v7 v8 v9 : Option D} {L : List Int} {qs : List Ord} {ns : List Int} {all xs : List D} {Q : C → S → Prop} (hg : Good os) (hns : ∀ n ∈ ns, n.natAbs ≤ 10 ^ 30)
    (hlen : qs.length + xs.length ≤ 100) (k : ∀ v7 v8 (qs : List Ord), Q (.nx [v0, v1, v2, some (.lst (os.map Ord.d)), some (.ref 1), some (rec_ os), some (.lst (ns.map .int)), v7, v8, v9]) [.lst (L.map .int), .lst (qs.map Ord.d)]) :
    wS (forL none all (gSlot 7) in_b xs [v0, v1, v2, some (.lst (os.map Ord.d)), some (.ref 1), some (rec_ os), some (.lst (ns.map .int)), v7, v8, v9] [.lst (L.map .int), .lst (qs.map Ord.d)]) Q := by
  have h33 := hg.1
  obtain ⟨d', h1, h2⟩ := told60 (k := 8) (d := .lst (os.map Ord.d)) (by
    show (decide ((os.map Ord.d).length < sizeLine) && (os.map Ord.d).all (plainOk 7)) = true
    rw [ords_ok, List.length_map, Bool.and_true]
    exact decide_eq_true (Nat.lt_of_le_of_lt h33 (by decide))) (by decide)
  have hp : ∀ {s : S} {Q : D → S → Prop}, wp (f_law_plain [.lst (os.map Ord.d)] s) Q = Q d' s := by
    intro s Q
    show wp (fn_law_plain 8 _ s) Q = _
    rw [plain_eq, h1, wp_ok]
  have hf : ∀ {s : S} {Q : D → S → Prop} {v6 v7 v8 v9 : Option D}, wp (mFld "orders" ["NumberRecipe"] (mVar 5) [v0, v1, v2, some (.lst (os.map Ord.d)), some (.ref 1), some (rec_ os), v6, v7, v8, v9] s) Q = Q (.lst (os.map Ord.d)) s := by
    intro s Q v6 v7 v8 v9
    rw [wp_fld, wp_var]
    simp only [List.getElem?_cons_zero, List.getElem?_cons_succ, rec_, insOf, List.mem_singleton, true_and]
    rfl
  let I : List D → Rho → S → Prop := fun xs ρ s => ∃ (v7 v8 : Option D) (qs : List Ord), ρ = [v0, v1, v2, some (.lst (os.map Ord.d)), some (.ref 1), some (rec_ os), some (.lst (ns.map .int)), v7, v8, v9] ∧ s = [.lst (L.map .int), .lst (qs.map Ord.d)] ∧ qs.length + xs.length ≤ 100
  refine wS_forN I ?_ ?_ _ _ _ ⟨v7, v8, qs, rfl, rfl, hlen⟩
  · rintro ρ s ⟨v7, v8, qs, rfl, rfl, _⟩
    exact k v7 v8 qs
  · rintro x xs ρ s ⟨v7, v8, qs, rfl, rfl, hl⟩
    simp only [List.length_cons] at hl
    rw [wp_gSlot]
    simp only [List.set_cons_zero, List.set_cons_succ]
    unfold in_b
    rw [wS_cons, wS_if]
    simp only [wp_tBool, wp_m2, wp_mN, wp_aCons, wp_aNil, hf, hp, wp_var, List.getElem?_cons_zero, List.getElem?_cons_succ, w_ne_self h2, Bool.false_eq_true, if_false, wS_nil, seqQ]
    rw [wS_cons, wS_for, wp_iAny, wp_var]
    simp only [List.getElem?_cons_zero, List.getElem?_cons_succ]
    let J : List D → Rho → S → Prop := fun ys ρ s => ∃ (v8 : Option D), ρ = [v0, v1, v2, some (.lst (os.map Ord.d)), some (.ref 1), some (rec_ os), some (.lst (ns.map .int)), some x, v8, v9] ∧ s = [.lst (L.map .int), .lst (qs.map Ord.d)] ∧ ∀ y ∈ ys, ∃ n : Int, y = .int n ∧ n.natAbs ≤ 10 ^ 30
    refine wS_forN J ?_ ?_ _ _ _ ⟨v8, rfl, rfl, fun y hy => ?_⟩
    · rintro ρ s ⟨v8, rfl, rfl, _⟩
      simp only [seqQ]
      rw [wS_cons, wS_expr, wp_mt]
      simp only [wp_var, List.getElem?_cons_zero, List.getElem?_cons_succ]
      refine ⟨hasTy_ref (xs := qs.map Ord.d) rfl, ?_⟩
      simp only [wp_mN, wp_aCons, wp_aNil, wp_mC, w_tup]
      refine ⟨by decide, ?_⟩
      rw [w_append (xs := qs.map Ord.d) rfl]
      refine ⟨Nat.lt_of_le_of_lt (show (qs.map Ord.d).length ≤ 100 by rw [List.length_map]; omega) (by decide), ?_⟩
      have ea : qs.map Ord.d ++ [D.tup [D.str "lose"]] = (qs ++ [Ord.lose]).map Ord.d := by simp [Ord.d]
      simp only [List.set_cons_zero, List.set_cons_succ, ea, seqQ]
      rw [wS_asg]
      simp only [wp_mN, wp_aCons, wp_aNil, wp_mC, w_tup]
      refine ⟨by decide, ?_⟩
      rw [wp_gSub, wp_var]
      simp only [List.getElem?_cons_zero, List.getElem?_cons_succ, wp_mC]
      rw [w_store (xs := (qs ++ [Ord.lose]).map Ord.d) rfl (by decide) (by rw [List.length_map]; simp)]
      have eb : ((qs ++ [Ord.lose]).map Ord.d).set (0 : Int).toNat (D.tup [D.str "lose"]) = ((qs ++ [Ord.lose]).set 0 Ord.lose).map Ord.d := by
        rw [List.map_set]
        rfl
      simp only [List.set_cons_zero, List.set_cons_succ, eb]
      exact ⟨_, _, _, rfl, rfl, by simp; omega⟩
    · rintro y ys ρ s ⟨v8, rfl, rfl, hy⟩
      obtain ⟨n, rfl, hn⟩ := hy y List.mem_cons_self
      rw [wp_gSlot]
      simp only [List.set_cons_zero, List.set_cons_succ]
      rw [wS_if]
      simp only [wp_tNot, wp_tTru, wp_mN, wp_aCons, wp_aNil, wp_var, List.getElem?_cons_zero, List.getElem?_cons_succ]
      refine asked_wp hg hn low_dk ?_
      simp only [dTru, Bool.not_true, Bool.false_eq_true, if_false, wS_nil, turnQ]
      exact ⟨_, rfl, rfl, fun z hz => hy z (List.mem_cons_of_mem _ hz)⟩
    · obtain ⟨n, hn, rfl⟩ := List.mem_map.mp hy
      exact ⟨n, rfl, hns n hn⟩
theorem law_wp {ns : List Int} (hl : ns.length ≤ 63) : wp (f_law [.lst (ns.map .int)] []) fun d _ => d = .bl true := by
  refine (wp_fn (n := 1) (tot := 10) (m := m_law) rfl).mpr ?_
  show wS (m_law [some (.lst (ns.map .int)), none, none, none, none, none, none, none, none, none] _) _
  unfold m_law
  rw [wS_cons, wS_set, wp_mN]
  simp only [wp_aCons, wp_aNil, wp_var, wp_mC, List.getElem?_cons_zero]
  refine deck_wp ⟨by decide, by decide⟩ ⟨by decide, by decide⟩ hl fun s d0 => ?_
  simp only [List.set_cons_zero, List.set_cons_succ, seqQ]
  rw [wS_cons, wS_for, wp_iRange1, wp_mC]
  refine ⟨⟨by decide, by decide⟩, ?_⟩
  let I : List D → Rho → S → Prop := fun xs ρ s => ∃ (v2 v3 v4 v5 v6 v7 v8 v9 : Option D), ρ = [some (.lst (ns.map .int)), some (.ref 0), v2, v3, v4, v5, v6, v7, v8, v9] ∧ Dk s []
  refine wS_forN I ?_ ?_ _ _ _ ⟨none, none, none, none, none, none, none, none, rfl, d0⟩
  · rintro ρ s ⟨v2, v3, v4, v5, v6, v7, v8, v9, rfl, _⟩
    simp only [wp_ok, wp_bad, wp_bind, wS_ok, wS_bad, wS_cons, wS_nil, wS_pass, wS_break, wS_cont, wS_never, wS_set, wS_expr, wS_ret, wS_retN, wS_if, wS_asg, wS_aug, wS_for, wp_lc, wp_m1, wp_m2, wp_mN, wp_aNil, wp_aCons, wp_mC, wp_var, wp_if, wp_and, wp_or, wp_not, wp_chain, wp_mt, wp_get, wp_isi, wp_fld, wp_sl, wp_oNone, wp_oSome, wp_tBool, wp_tTru, wp_tNot, wp_tAnd, wp_tOr, wp_tAll, wp_gSlot, wp_gsNil, wp_gsCons, wp_gTup, wp_gSub, wp_iAny, wp_iSeq, wp_iTup, wp_iStr, wp_iRange1, wp_iRange2, wp_iZip, wS_fld, wp_make, seqQ, rtQ, turnQ, List.getElem?_cons_zero, List.getElem?_cons_succ, List.set_cons_zero, List.set_cons_succ, wipeD, if_true, if_false, Bool.false_eq_true, Bool.true_eq_false, reduceIte, w_add, w_iadd, w_iaddS, w_addS, w_addL, w_addT, w_sub, w_mul, w_mod, w_fdiv, w_pow, w_neg, w_lt, w_le, w_gt, w_ge, w_eqI, w_neI, w_eqT, w_neT, w_isN, w_isnotN, w_isB, w_isNB, w_len, w_lenT, w_int, w_intB, w_abs, w_min, w_max, w_tup, w_lst, w_new, w_list, w_listN, w_ix, w_ixT, w_ixD, w_inT1, w_notinT1, w_inT2, w_notinT2, w_inT3, w_notinT3, w_inT4, w_notinT4, w_inT5, w_notinT5, w_inT6, w_notinT6, w_inT7, w_notinT7, w_inT8, w_notinT8, w_sl1, at_0, at_1, at_2, at_3, at_4, at_5, hasTy_list, hasTy_str, isNonD, flatD, sEq_T, List.all_cons, List.all_nil, List.any_cons, List.any_nil, Bool.and_true, Bool.true_and, Bool.or_false, Bool.or_true, Bool.true_or, Bool.false_or, Bool.not_true, Bool.not_false, List.length_cons, List.length_nil, Nat.zero_add, Nat.reduceAdd, line_eq, true_and, and_true, String.reduceBEq, Int.reduceBEq, decide_true, decide_false, Int.reduceLT, Int.reduceLE, beq_self_eq_true, Nat.reduceLeDiff]
  · rintro x xs ρ s ⟨v2, v3, v4, v5, v6, v7, v8, v9, rfl, dk⟩
    have hs1 : s.length = 1 := by obtain ⟨L, rfl, _⟩ := dk; rfl
    rw [wp_gSlot]
    simp only [List.set_cons_zero, List.set_cons_succ]
    rw [wS_cut, hs1, wS_cons, wS_set, wp_mN]
    simp only [wp_aCons, wp_aNil, wp_var, List.getElem?_cons_zero, List.getElem?_cons_succ]
    refine orders_wp dk fun os s1 hg d1 => ?_
    obtain ⟨L, rfl, hL⟩ := d1
    simp only [List.set_cons_zero, List.set_cons_succ, seqQ]
    rw [wS_cons, wS_set, wp_mN]
    simp only [wp_aCons, wp_aNil, wp_var, List.getElem?_cons_zero, List.getElem?_cons_succ, w_listN, List.length_cons, List.length_nil, Nat.zero_add, List.cons_append, List.nil_append, List.set_cons_zero, List.set_cons_succ, seqQ]
    rw [wS_cons, wS_set]
    refine make_wp hg (lt_ints L) ?_
    simp only [List.set_cons_zero, List.set_cons_succ, seqQ]
    rw [wS_cons, wS_set, wp_lc, wp_iRange1, wp_mC]
    refine ⟨⟨by decide, by decide⟩, ?_⟩
    let J : List D → List D → S → Prop := fun xs acc s => ∃ (ms : List Int), acc = ms.map .int ∧ (∀ m ∈ ms, m.natAbs ≤ 10 ^ 30) ∧ Dk s [.lst (os.map Ord.d)]
    refine wp_mapN J ?_ _ [] _ ⟨[], rfl, by simp, L, rfl, hL⟩ ?_
    · rintro y ys acc s ⟨ms, rfl, hm, d2⟩
      rw [wp_gSlot]
      simp only [wipeD, List.set_cons_zero, List.set_cons_succ]
      rw [wp_tAll, if_pos rfl, wp_mN]
      simp only [wp_aCons, wp_aNil, wp_var, List.getElem?_cons_zero, List.getElem?_cons_succ]
      refine datum_wp d2 fun v s2 hv d3 => ⟨ms ++ [v], by simp, fun m hmm => ?_, d3⟩
      rcases List.mem_append.mp hmm with h | h
      · exact hm m h
      · rw [List.mem_singleton.mp h]; exact hv
    · rintro acc s2 ⟨ms, hacc, hm, L2, rfl, hL2⟩
      simp only [List.nil_append] at hacc
      subst hacc
      refine ⟨by decide, ?_⟩
      simp only [List.set_cons_zero, List.set_cons_succ, seqQ]
      rw [wS_for, wp_iRange1, wp_mC]
      refine ⟨⟨by decide, by decide⟩, ?_⟩
      refine in_wp (qs := os) hg hm (by have := hg.1; show os.length + 2 ≤ 100; omega) fun v7 v8 qs => ?_
      refine ⟨?_, ?_⟩
      · unfold stOk
        simp only [List.take_succ_cons, List.take_zero, List.all_cons, List.all_nil, Bool.and_true]
        exact lt_ints L2
      · have e0 : cutO 1 (some (.lst (ns.map .int))) = some (.lst (ns.map .int)) := if_pos (lt_ints ns)
        simp only [cutRho, List.map_cons, List.map_nil, e0, List.take_succ_cons, List.take_zero, turnQ]
        exact ⟨_, _, _, _, _, _, _, _, rfl, L2, rfl, hL2⟩
theorem law_plain (ns : List Int) (hl : ns.length ≤ 63) (hb : ∀ z ∈ ns, Builtin.Int.intBits z ≤ 1048576) : ∃ s, f_law [.lst (ns.map .int)] [] = .ok (.bl true) s := by
  obtain ⟨d, s, e, rfl⟩ := wp_ex (law_wp hl)
  exact ⟨s, e⟩
end
end
end K00
section
open PySem PySem.W PyProof.Rows
set_option maxHeartbeats 0
open_top hd for PySem.Challenge.rw_gluebridge_k00_number_recipes
theorem PySem.Challenge.cw_gluebridge_k00_number_recipes_holds : PySem.Challenge.rw_gluebridge_k00_number_recipes.Holds := by
  refine hd ?_
  k_fill
  refine Pm.walk_pm (n := 63) (k := 11) (f := K00.f_law) rfl (by decide) rfl ⟨rfl, by decide, by decide⟩ (fun w h Y => PySem.W.kIn_of Y) ?F K00.law_plain
  case F =>
    intro w mg fa h KX G hmg
    refine' K00.all_mk KX G hmg ?n_law_deck ?n_law_take ?n_law_spot ?n_law_amount ?n_law_order ?n_law_orders ?n_shape_of ?n_fits ?n_allowed ?n_check_orders ?n_law_datum ?n_law_plain ?n_law_run ?n_calculate ?n_skipped ?n_execute ?n_number_image ?n_number_path ?n_code_image ?n_law_asked ?n_law ?nc_NumberRecipe ?l_law_deck ?c_law_deck ?k_law_deck ?l_law_take ?c_law_take ?k_law_take ?l_law_spot ?c_law_spot ?k_law_spot ?l_law_amount ?c_law_amount ?k_law_amount ?l_law_order ?c_law_order ?k_law_order ?l_law_orders ?c_law_orders ?k_law_orders ?l_shape_of ?c_shape_of ?k_shape_of ?l_fits ?c_fits ?k_fits ?l_allowed ?c_allowed ?k_allowed ?l_check_orders ?c_check_orders ?k_check_orders ?at_NumberRecipe_init ?if_NumberRecipe_init ?l_NumberRecipe_init ?c_NumberRecipe_init ?k_NumberRecipe_init ?l_law_datum ?c_law_datum ?k_law_datum ?l_law_plain ?c_law_plain ?k_law_plain ?l_law_run ?c_law_run ?k_law_run ?l_calculate ?c_calculate ?k_calculate ?l_skipped ?c_skipped ?k_skipped ?l_execute ?c_execute ?k_execute ?l_number_image ?c_number_image ?k_number_image ?l_number_path ?c_number_path ?k_number_path ?l_code_image ?c_code_image ?k_code_image ?l_law_asked ?c_law_asked ?k_law_asked ?l_law ?c_law ?k_law ?pg_NumberRecipe ?hd_NumberRecipe ?po_NumberRecipe ?sa_NumberRecipe ?mk_NumberRecipe ?kc_NumberRecipe ?na_NumberRecipe_orders ?bn_abs ?bn_bool ?bn_int ?bn_isinstance ?bn_len ?bn_list ?bn_min ?bn_range ?bn_str ?bn_tuple ?bn_zip ?g_BODY_ORDERS ?L_BODY_ORDERS ?lo_BODY_ORDERS ?g_BOUNDS ?L_BOUNDS ?lo_BOUNDS ?g_FINISH_ORDERS ?L_FINISH_ORDERS ?lo_FINISH_ORDERS ?g_MOST_DIVISOR ?g_MOST_ORDERS ?g_NUMBER_ORDERS ?L_NUMBER_ORDERS ?lo_NUMBER_ORDERS ?g_REGISTERS
    (case n_law_deck => k_is)
    (case n_law_take => k_is)
    (case n_law_spot => k_is)
    (case n_law_amount => k_is)
    (case n_law_order => k_is)
    (case n_law_orders => k_is)
    (case n_shape_of => k_is)
    (case n_fits => k_is)
    (case n_allowed => k_is)
    (case n_check_orders => k_is)
    (case n_law_datum => k_is)
    (case n_law_plain => k_is)
    (case n_law_run => k_is)
    (case n_calculate => k_is)
    (case n_skipped => k_is)
    (case n_execute => k_is)
    (case n_number_image => k_is)
    (case n_number_path => k_is)
    (case n_code_image => k_is)
    (case n_law_asked => k_is)
    (case n_law => k_is)
    (case nc_NumberRecipe => k_is)
    (case l_law_deck => k_is)
    (case c_law_deck => k_is)
    (case k_law_deck => k_is)
    (case l_law_take => k_is)
    (case c_law_take => k_is)
    (case k_law_take => k_is)
    (case l_law_spot => k_is)
    (case c_law_spot => k_is)
    (case k_law_spot => k_is)
    (case l_law_amount => k_is)
    (case c_law_amount => k_is)
    (case k_law_amount => k_is)
    (case l_law_order => k_is)
    (case c_law_order => k_is)
    (case k_law_order => k_is)
    (case l_law_orders => k_is)
    (case c_law_orders => k_is)
    (case k_law_orders => k_is)
    (case l_shape_of => k_is)
    (case c_shape_of => k_is)
    (case k_shape_of => k_is)
    (case l_fits => k_is)
    (case c_fits => k_is)
    (case k_fits => k_is)
    (case l_allowed => k_is)
    (case c_allowed => k_is)
    (case k_allowed => k_is)
    (case l_check_orders => k_is)
    (case c_check_orders => k_is)
    (case k_check_orders => k_is)
    (case at_NumberRecipe_init => k_is)
    (case if_NumberRecipe_init => k_is)
    (case l_NumberRecipe_init => k_is)
    (case c_NumberRecipe_init => k_is)
    (case k_NumberRecipe_init => k_is)
    (case l_law_datum => k_is)
    (case c_law_datum => k_is)
    (case k_law_datum => k_is)
    (case l_law_plain => k_is)
    (case c_law_plain => k_is)
    (case k_law_plain => k_is)
    (case l_law_run => k_is)
    (case c_law_run => k_is)
    (case k_law_run => k_is)
    (case l_calculate => k_is)
    (case c_calculate => k_is)
    (case k_calculate => k_is)
    (case l_skipped => k_is)
    (case c_skipped => k_is)
    (case k_skipped => k_is)
    (case l_execute => k_is)
    (case c_execute => k_is)
    (case k_execute => k_is)
    (case l_number_image => k_is)
    (case c_number_image => k_is)
    (case k_number_image => k_is)
    (case l_number_path => k_is)
    (case c_number_path => k_is)
    (case k_number_path => k_is)
    (case l_code_image => k_is)
    (case c_code_image => k_is)
    (case k_code_image => k_is)
    (case l_law_asked => k_is)
    (case c_law_asked => k_is)
    (case k_law_asked => k_is)
    (case l_law => k_is)
    (case c_law => k_is)
    (case k_law => k_is)
    (case pg_NumberRecipe => k_is)
    (case hd_NumberRecipe => k_is)
    (case po_NumberRecipe => k_is)
    (case sa_NumberRecipe => k_is)
    (case mk_NumberRecipe => k_is)
    (case kc_NumberRecipe => k_is)
    (case na_NumberRecipe_orders => k_is)
    (case bn_abs => k_is)
    (case bn_bool => k_is)
    (case bn_int => k_is)
    (case bn_isinstance => k_is)
    (case bn_len => k_is)
    (case bn_list => k_is)
    (case bn_min => k_is)
    (case bn_range => k_is)
    (case bn_str => k_is)
    (case bn_tuple => k_is)
    (case bn_zip => k_is)
    (case g_BODY_ORDERS => k_is)
    (case L_BODY_ORDERS => k_is)
    (case lo_BODY_ORDERS => rfl)
    (case g_BOUNDS => k_is)
    (case L_BOUNDS => k_is)
    (case lo_BOUNDS => rfl)
    (case g_FINISH_ORDERS => k_is)
    (case L_FINISH_ORDERS => k_is)
    (case lo_FINISH_ORDERS => rfl)
    (case g_MOST_DIVISOR => k_is)
    (case g_MOST_ORDERS => k_is)
    (case g_NUMBER_ORDERS => k_is)
    (case L_NUMBER_ORDERS => k_is)
    (case lo_NUMBER_ORDERS => rfl)
    (case g_REGISTERS => k_is)
end
