import PyProof.Rows.All
import Wide.All
import OpenK.AllK
import Wide.FinOn
import HandS.ForMost
import HandS.TupAny
import HandS.WideBits
import HandS.Wide
import HandS.Style
import HandS.Deep
import HandS.IsInst
import HandS.Codes
import HandS.TupMul
import HandS.More
import HandS.Exc
import HandS.ExcOwn
import HandS.WordsExc
import HandS.CallSlots
import HandS.Comp
import HandS.Iter
import HandS.Zip
import HandS.WordsList
import HandS.Dict
import KE.GoesNew
import KE.GoesEnum
import HandS.EndBits
import HandS.Small
import PyProof.StrOps2
import HandS.TryMany
import HandS.TryOnly
import HandS.ExcField
import HandS.ExcIs
import KE.KExcIs
import HandS.ExcInit
import HandS.FStr
import PyProof.FitsInt
import KE.IntBitsLaws
import PySem.Challenge.RW_gluebridge_k11_text_recipes
set_option Elab.async false
set_option linter.all false
set_option maxRecDepth 100000
/-! Pm: a translator's core. Pure data D, a small store S of what is changed, results R; how they stand to the layer's values V and heaps Hp; combinators of simulation. -/
namespace Pm
open PySem PySem.Spec PyProof.Rows L2

/-! ### data, store, results -/
/-- data: lst, tup, ins are finished (nothing changes them any more); ref n is the n-th thing of the store -/
inductive D where
  | non | bl (b : Bool) | int (i : Int) | str (x : Str)
  | tup (xs : List D) | lst (xs : List D) | ref (n : Nat)
  | ins (C : Str) (fs : List (Str × D))
  | glo (a : Addr) | ty (n : String)
  | dic (kvs : List (Str × D))
  /-- an exception that a suite holds: its number, its class, its fields -/
  | exn (k : Nat) (C : Str) (fs : List (Str × D))
/-- where the classes stand; the exception that the suite holds: its number, its address, its dict's, its class's -/
structure Cl where
  of : Str → Option Addr
  ex : Option (Nat × Addr × Addr × Addr)
instance : CoeFun Cl fun _ => Str → Option Addr := ⟨Cl.of⟩
/-- a thing of the store -/
inductive O where
  | lst (xs : List D)
  | ins (C : Str) (fs : List (Str × D))
  /-- a dict with number and text keys -/
  | dK (kvs : List (Key × D))
abbrev S := List O
abbrev Rho := List (Option D)
inductive R (α : Type) where
  | ok (a : α) (s : S)
  | exc (x : D) (s : S)
  | bad
def R.bind {α β : Type} (r : R α) (f : α → S → R β) : R β := match r with
  | .ok a s => f a s
  | .exc x s => .exc x s
  | .bad => .bad
theorem R.bind_ok {α β : Type} (a : α) (s : S) (f : α → S → R β) : (R.ok a s).bind f = f a s := rfl
theorem R.bind_exc {α β : Type} (x : D) (s : S) (f : α → S → R β) : (R.exc x s : R α).bind f = .exc x s := rfl
theorem R.bind_bad {α β : Type} (f : α → S → R β) : (R.bad : R α).bind f = .bad := rfl
/-- how a statement ends -/
inductive C where
  | nx (ρ : Rho) | rt (d : D) | bk (ρ : Rho) | ct (ρ : Rho)
/-- a statement's result: an exception leaves with the slots as they stand -/
inductive RS where
  | ok (c : C) (s : S)
  | exc (x : D) (ρ : Rho) (s : S)
  | bad
abbrev ME := Rho → S → R D
abbrev MT := Rho → S → R Bool
abbrev MA := Rho → S → R (List D)
abbrev MS := Rho → S → RS
/-- an expression in a statement at the slots ρ -/
def R.st {α : Type} (r : R α) (ρ : Rho) (f : α → S → RS) : RS := match r with
  | .ok a s => f a s
  | .exc x s => .exc x ρ s
  | .bad => .bad
def RS.andThen (r : RS) (f : Rho → S → RS) : RS := match r with
  | .ok (.nx ρ) s => f ρ s
  | .ok c s => .ok c s
  | .exc x ρ s => .exc x ρ s
  | .bad => .bad

/-! ### how data stand to values -/
section
variable (K : PySem.W.Frag) (w : World) (cl : Cl)
abbrev LsQ (H : Hp) (a : Addr) (xs : List V) : Prop := SqL K H a xs
def SL (ι : List Addr) (H : Hp) (a : Addr) (xs : List V) : Prop := (Rd H a (.lst xs) ∧ a ∉ ι) ∨
  ∃ (o : Obj) (its : Array Value) (n : Nat), K.lookup a = some o ∧ o.cls = .type "list" ∧ o.dict = none ∧ o.data = .seq its n ∧ its.size ≤ sizeLine ∧ Vals xs its.toList
def ST (ι : List Addr) (H : Hp) (a : Addr) (xs : List V) : Prop := (Rd H a (.tup xs) ∧ a ∉ ι) ∨
  ∃ (o : Obj) (its : Array Value) (n : Nat), K.lookup a = some o ∧ o.cls = .type "tuple" ∧ o.data = .seq its n ∧ its.size ≤ sizeLine ∧ Vals xs its.toList
/-- a dict of the written part, its keys texts -/
def KDx (a : Addr) (vs : List (Str × V)) : Prop := ∃ (es : Array DictEntry) (n : Nat) (us : List (Str × Value)), K.lookup a = some ⟨.type "dict", none, .dict es n, #[]⟩ ∧ PySem.W.KeysLit w.params es.toList ∧ (a == sysModules) = false ∧
  (∀ z : Str, PySem.W.nsIn K a z = some (us.lookup z)) ∧ Paired (fun (p : Str × V) (q : Str × Value) => p.1 = q.1 ∧ RelV p.2 q.2) vs us
mutual
inductive RelD (ι : List Addr) (H : Hp) : D → V → Prop
  | non : RelD ι H .non .non
  | bl (b : Bool) : RelD ι H (.bl b) (.bl b)
  | int (i : Int) : RelD ι H (.int i) (.int i)
  | str (x : Str) : RelD ι H (.str x) (.str x)
  | tup {ds : List D} {a : Addr} {vs : List V} (h : ST K ι H a vs) (r : RelDs ι H ds vs) : RelD ι H (.tup ds) (.ref a)
  | lst {ds : List D} {a : Addr} {vs : List V} (h : SL K ι H a vs) (r : RelDs ι H ds vs) : RelD ι H (.lst ds) (.ref a)
  | ref {n : Nat} {a : Addr} (h : ι[n]? = some a) : RelD ι H (.ref n) (.ref a)
  | ins {c : Str} {A a dx : Addr} {fs : List (Str × D)} {vs : List (Str × V)} (hc : cl c = some A) (hk : Cls K A) (h : H a = some (.ins A dx vs)) (ha : a ∉ ι) (r : RelFs ι H fs vs) : RelD ι H (.ins c fs) (.ref a)
  | glo (a : Addr) : RelD ι H (.glo a) (.ref a)
  | ty (n : String) : RelD ι H (.ty n) (.ty n)
  | dic {kvs : List (Str × D)} {a : Addr} {vs : List (Str × V)} (h : KDx K w a vs) (r : RelFs ι H kvs vs) : RelD ι H (.dic kvs) (.ref a)
  | exn {k : Nat} {c : Str} {A a dd : Addr} {fs : List (Str × D)} {vs : List (Str × V)} (he : cl.ex = some (k, a, dd, A)) (hc : cl c = some A) (h : H dd = some (.xd vs)) (ha : dd ∉ ι) (r : RelFs ι H fs vs) : RelD ι H (.exn k c fs) (.ref a)
  | old {k : Nat} {c : Str} {a : Addr} {fs : List (Str × D)} (he : ∀ t, cl.ex = some t → t.1 ≠ k) : RelD ι H (.exn k c fs) (.ref a)
inductive RelDs (ι : List Addr) (H : Hp) : List D → List V → Prop
  | nil : RelDs ι H [] []
  | cons {d : D} {v : V} {ds : List D} {vs : List V} (r : RelD ι H d v) (t : RelDs ι H ds vs) : RelDs ι H (d :: ds) (v :: vs)
inductive RelFs (ι : List Addr) (H : Hp) : List (Str × D) → List (Str × V) → Prop
  | nil : RelFs ι H [] []
  | cons {f : Str} {d : D} {v : V} {ds : List (Str × D)} {vs : List (Str × V)} (r : RelD ι H d v) (t : RelFs ι H ds vs) : RelFs ι H ((f, d) :: ds) ((f, v) :: vs)
end
end

/-- not the objects that are being made -/
def Dat : HO → Prop
  | .ext _ => False
  | _ => True
/-- data stay data -/
structure Ext0 (ι : List Addr) (H : Hp) (ι' : List Addr) (H' : Hp) : Prop where
  pre : ∃ l, ι' = ι ++ l
  keep : ∀ a o, H a = some o → a ∉ ι → Dat o → H' a = some o ∧ a ∉ ι'
/-- what lies behind: new things come last in ι; all that was tracked outside of ι is as it was; nothing is gone -/
structure Ext (ι : List Addr) (H : Hp) (ι' : List Addr) (H' : Hp) : Prop where
  pre : ∃ l, ι' = ι ++ l
  keep : ∀ a o, H a = some o → a ∉ ι → H' a = some o ∧ a ∉ ι'
  dom : ∀ a, H' a = none → H a = none
theorem Ext.toExt0 {ι ι' : List Addr} {H H' : Hp} (x : Ext ι H ι' H') : Ext0 ι H ι' H' := ⟨x.pre, fun a o h n _ => x.keep a o h n⟩
theorem Ext.refl (ι : List Addr) (H : Hp) : Ext ι H ι H := ⟨⟨[], (List.append_nil ι).symm⟩, fun _ _ h n => ⟨h, n⟩, fun _ h => h⟩
theorem Ext.trans {ι ι1 ι2 : List Addr} {H H1 H2 : Hp} (a : Ext ι H ι1 H1) (b : Ext ι1 H1 ι2 H2) : Ext ι H ι2 H2 := by
  obtain ⟨l1, e1⟩ := a.pre
  obtain ⟨l2, e2⟩ := b.pre
  refine ⟨⟨l1 ++ l2, by rw [e2, e1, List.append_assoc]⟩, fun x o h n => ?_, fun x h => a.dom x (b.dom x h)⟩
  obtain ⟨h1, n1⟩ := a.keep x o h n
  exact b.keep x o h1 n1
theorem upd_none {H : Hp} {p a : Addr} {o : HO} (h : upd H p o a = none) : H a = none := by
  by_cases e : a = p
  · subst e; rw [upd_same] at h; cases h
  · rw [upd_ne e] at h; exact h
/-- a new object that the store does not know -/
theorem Ext.new {ι : List Addr} {H : Hp} {p : Addr} {o : HO} (h : H p = none) : Ext ι H ι (upd H p o) :=
  ⟨⟨[], (List.append_nil ι).symm⟩, fun a o' e n => ⟨by rw [upd_ne (ne_of_none e h)]; exact e, n⟩, fun _ => upd_none⟩
/-- a new thing of the store -/
theorem Ext.push {ι : List Addr} {H : Hp} {p : Addr} {o : HO} (h : H p = none) : Ext ι H (ι ++ [p]) (upd H p o) :=
  ⟨⟨[p], rfl⟩, fun a o' e n => ⟨by rw [upd_ne (ne_of_none e h)]; exact e, fun m => by
    rcases List.mem_append.mp m with m | m
    · exact n m
    · exact ne_of_none e h (List.mem_singleton.mp m)⟩, fun _ => upd_none⟩
/-- a thing of the store is changed -/
theorem Ext.write {ι : List Addr} {H : Hp} {p : Addr} {o : HO} (h : p ∈ ι) : Ext ι H ι (upd H p o) :=
  ⟨⟨[], (List.append_nil ι).symm⟩, fun a o' e n => ⟨by rw [upd_ne (fun z => n (by rw [z]; exact h))]; exact e, n⟩, fun _ => upd_none⟩
/-- .. of what was not there -/
theorem Ext.up {ι ι' : List Addr} {H H' : Hp} {p : Addr} {o : HO} (x : Ext ι H ι' H') (h : H p = none) : Ext ι H ι' (upd H' p o) :=
  ⟨x.pre, fun a o' e n => ⟨by rw [upd_ne (ne_of_none e h)]; exact (x.keep a o' e n).1, (x.keep a o' e n).2⟩, fun _ e => x.dom _ (upd_none e)⟩
/-- an object that is being made goes on -/
theorem Ext0.made {ι : List Addr} {H : Hp} {p : Addr} {o o' : HO} (h : H p = some o) (n : ¬ Dat o) : Ext0 ι H ι (upd H p o') :=
  ⟨⟨[], (List.append_nil ι).symm⟩, fun a u e m d => ⟨by rw [upd_ne (fun z => by rw [z, h] at e; cases e; exact n d)]; exact e, m⟩⟩
section
variable {K : PySem.W.Frag} {w : World} {cl : Cl} {ι ι' : List Addr} {H H' : Hp}
theorem Rd.ext0 {a : Addr} {u : HO} (x : Ext0 ι H ι' H') (h : Rd H a u) (n : a ∉ ι) (d : Dat u) : Rd H' a u ∧ a ∉ ι' := by
  rcases h with h | ⟨o, h⟩
  · exact ⟨.inl (x.keep _ _ h n d).1, (x.keep _ _ h n d).2⟩
  · exact ⟨.inr ⟨o, (x.keep _ _ h n trivial).1⟩, (x.keep _ _ h n trivial).2⟩
theorem SL.ext0 {a : Addr} {xs : List V} (x : Ext0 ι H ι' H') (h : SL K ι H a xs) : SL K ι' H' a xs := by
  rcases h with ⟨h, n⟩ | h
  · exact .inl (Rd.ext0 x h n trivial)
  · exact .inr h
theorem ST.ext0 {a : Addr} {xs : List V} (x : Ext0 ι H ι' H') (h : ST K ι H a xs) : ST K ι' H' a xs := by
  rcases h with ⟨h, n⟩ | h
  · exact .inl (Rd.ext0 x h n trivial)
  · exact .inr h
theorem LsQ.sq {a : Addr} {xs : List V} (h : LsQ K H a xs) : SqL K H a xs := h
theorem SL.ls {a : Addr} {xs : List V} (h : SL K ι H a xs) : LsQ K H a xs := by
  rcases h with ⟨h, n⟩ | h
  · exact .inl h
  · exact .inr h
theorem SL.sq {a : Addr} {xs : List V} (h : SL K ι H a xs) : SqL K H a xs := SL.ls h
theorem ST.sq {a : Addr} {xs : List V} (h : ST K ι H a xs) : SqT K H a xs := by
  rcases h with ⟨h, n⟩ | h
  · exact .inl h
  · exact .inr h
theorem Ext0.at {n : Nat} {a : Addr} (x : Ext0 ι H ι' H') (h : ι[n]? = some a) : ι'[n]? = some a := by
  obtain ⟨l, e⟩ := x.pre
  obtain ⟨hn, e2⟩ := List.getElem?_eq_some_iff.mp h
  rw [e, List.getElem?_append_left hn]
  exact h
mutual
theorem RelD.ext0 (x : Ext0 ι H ι' H') : ∀ {d : D} {v : V}, RelD K w cl ι H d v → RelD K w cl ι' H' d v
  | _, _, .non => .non
  | _, _, .bl b => .bl b
  | _, _, .int i => .int i
  | _, _, .str y => .str y
  | _, _, .tup h r => .tup (h.ext0 x) (RelDs.ext0 x r)
  | _, _, .lst h r => .lst (h.ext0 x) (RelDs.ext0 x r)
  | _, _, .ref h => .ref (x.at h)
  | _, _, .ins hc hk h ha r => .ins hc hk (x.keep _ _ h ha trivial).1 (x.keep _ _ h ha trivial).2 (RelFs.ext0 x r)
  | _, _, .glo a => .glo a
  | _, _, .ty n => .ty n
  | _, _, .dic h r => .dic h (RelFs.ext0 x r)
  | _, _, .exn he hc h ha r => .exn he hc (x.keep _ _ h ha trivial).1 (x.keep _ _ h ha trivial).2 (RelFs.ext0 x r)
  | _, _, .old he => .old he
theorem RelDs.ext0 (x : Ext0 ι H ι' H') : ∀ {ds : List D} {vs : List V}, RelDs K w cl ι H ds vs → RelDs K w cl ι' H' ds vs
  | _, _, .nil => .nil
  | _, _, .cons r t => .cons (RelD.ext0 x r) (RelDs.ext0 x t)
theorem RelFs.ext0 (x : Ext0 ι H ι' H') : ∀ {ds : List (Str × D)} {vs : List (Str × V)}, RelFs K w cl ι H ds vs → RelFs K w cl ι' H' ds vs
  | _, _, .nil => .nil
  | _, _, .cons r t => .cons (RelD.ext0 x r) (RelFs.ext0 x t)
end
theorem Rd.ext {a : Addr} {u : HO} (x : Ext ι H ι' H') (h : Rd H a u) (n : a ∉ ι) (d : Dat u) : Rd H' a u ∧ a ∉ ι' := Rd.ext0 x.toExt0 h n d
theorem SL.ext {a : Addr} {xs : List V} (x : Ext ι H ι' H') (h : SL K ι H a xs) : SL K ι' H' a xs := SL.ext0 x.toExt0 h
theorem ST.ext {a : Addr} {xs : List V} (x : Ext ι H ι' H') (h : ST K ι H a xs) : ST K ι' H' a xs := ST.ext0 x.toExt0 h
theorem Ext.at {n : Nat} {a : Addr} (x : Ext ι H ι' H') (h : ι[n]? = some a) : ι'[n]? = some a := x.toExt0.at h
theorem RelD.ext {d : D} {v : V} (x : Ext ι H ι' H') (h : RelD K w cl ι H d v) : RelD K w cl ι' H' d v := RelD.ext0 x.toExt0 h
theorem RelDs.ext {d : List D} {v : List V} (x : Ext ι H ι' H') (h : RelDs K w cl ι H d v) : RelDs K w cl ι' H' d v := RelDs.ext0 x.toExt0 h
theorem RelFs.ext {d : List (Str × D)} {v : List (Str × V)} (x : Ext ι H ι' H') (h : RelFs K w cl ι H d v) : RelFs K w cl ι' H' d v := RelFs.ext0 x.toExt0 h
end

/-- a thing of the store as it stands -/
def RelO (K : PySem.W.Frag) (w : World) (cl : Cl) (ι : List Addr) (H : Hp) : O → Addr → Prop
  | .lst ds, a => ∃ vs, H a = some (.lst vs) ∧ RelDs K w cl ι H ds vs
  | .ins c fs, a => ∃ A dx vs, cl c = some A ∧ Cls K A ∧ H a = some (.ins A dx vs) ∧ RelFs K w cl ι H fs vs
  | .dK kvs, a => ∃ vs, H a = some (.dK vs) ∧ kvs.map (·.1) = vs.map (·.1) ∧ RelDs K w cl ι H (kvs.map (·.2)) (vs.map (·.2))
structure RelS (K : PySem.W.Frag) (w : World) (cl : Cl) (ι : List Addr) (s : S) (H : Hp) : Prop where
  len : ι.length = s.length
  nd : ι.Nodup
  at_ : ∀ (n : Nat) (o : O), s[n]? = some o → ∃ a, ι[n]? = some a ∧ RelO K w cl ι H o a
/-- the slots -/
structure RelE (K : PySem.W.Frag) (w : World) (cl : Cl) (ι : List Addr) (H : Hp) (ρ : Rho) (σ : L2.St) : Prop where
  len : ρ.length = σ.length
  at_ : ∀ (i : Nat) (d : D), ρ[i]? = some (some d) → ∃ v, σ[i]? = some (some v) ∧ RelD K w cl ι H d v
theorem RelE.ext {K : PySem.W.Frag} {w : World} {cl : Cl} {ι ι' : List Addr} {H H' : Hp} {ρ : Rho} {σ : L2.St} (x : Ext ι H ι' H') (e : RelE K w cl ι H ρ σ) : RelE K w cl ι' H' ρ σ :=
  ⟨e.len, fun i d h => let ⟨v, h1, h2⟩ := e.at_ i d h; ⟨v, h1, h2.ext x⟩⟩
theorem RelE.set {K : PySem.W.Frag} {w : World} {cl : Cl} {ι : List Addr} {H : Hp} {ρ : Rho} {σ : L2.St} {i : Nat} {d : D} {v : V} (e : RelE K w cl ι H ρ σ) (r : RelD K w cl ι H d v) : RelE K w cl ι H (ρ.set i (some d)) (σ.set i (some v)) := by
  refine ⟨by rw [List.length_set, List.length_set]; exact e.len, fun j d' h => ?_⟩
  by_cases hij : i = j
  · subst hij
    by_cases hi : i < ρ.length
    · rw [List.getElem?_set_self hi] at h
      cases h
      exact ⟨v, List.getElem?_set_self (by rw [← e.len]; exact hi), r⟩
    · rw [List.getElem?_eq_none (by rw [List.length_set]; omega)] at h
      cases h
  · rw [List.getElem?_set_ne hij] at h ⊢
    exact e.at_ j d' h

/-! ### what an end asks -/
section
variable (K : PySem.W.Frag) (w : World) (cl : Cl)
/-- an exception: an instance by its class and fields -/
def RelX (ι : List Addr) (H : Hp) (x : D) (c : Value) (d : Option Addr) : Prop :=
  ∃ C fs A, x = .ins C fs ∧ cl C = some A ∧ c = .ref A ∧ ∃ dd vs, d = some dd ∧ H dd = some (.xd vs) ∧ RelFs K w cl ι H fs vs
/-- the wish of exceptions: WX of the layer, told at the data's level -/
abbrev Wish := Value → Option Addr → L2.St → Hp → Prop
def PoE (W : Wish) (ι : List Addr) (H : Hp) (σ : L2.St) (Q : VK) : R D → Prop
  | .ok d s => ∀ ι' H' v, Ext ι H ι' H' → RelS K w cl ι' s H' → RelD K w cl ι' H' d v → Q v H'
  | .exc x s => ∀ ι' H' c d, Ext ι H ι' H' → RelS K w cl ι' s H' → RelX K w cl ι' H' x c d → W c d σ H'
  | .bad => False
def PoT (W : Wish) (ι : List Addr) (H : Hp) (σ : L2.St) (Q : Bool → Hp → Prop) : R Bool → Prop
  | .ok b s => ∀ ι' H', Ext ι H ι' H' → RelS K w cl ι' s H' → Q b H'
  | .exc x s => ∀ ι' H' c d, Ext ι H ι' H' → RelS K w cl ι' s H' → RelX K w cl ι' H' x c d → W c d σ H'
  | .bad => False
def PoA (W : Wish) (ι : List Addr) (H : Hp) (σ : L2.St) (Q : List V → Hp → Prop) : R (List D) → Prop
  | .ok ds s => ∀ ι' H' vs, Ext ι H ι' H' → RelS K w cl ι' s H' → RelDs K w cl ι' H' ds vs → Q vs H'
  | .exc x s => ∀ ι' H' c d, Ext ι H ι' H' → RelS K w cl ι' s H' → RelX K w cl ι' H' x c d → W c d σ H'
  | .bad => False
def PoS (W : Wish) (ι : List Addr) (H : Hp) (Dn : Ends) : RS → Prop
  | .ok (.nx ρ) s => ∀ ι' H' σ, Ext ι H ι' H' → RelS K w cl ι' s H' → RelE K w cl ι' H' ρ σ → Dn.nx σ H'
  | .ok (.bk ρ) s => ∀ ι' H' σ, Ext ι H ι' H' → RelS K w cl ι' s H' → RelE K w cl ι' H' ρ σ → Dn.bk σ H'
  | .ok (.ct ρ) s => ∀ ι' H' σ, Ext ι H ι' H' → RelS K w cl ι' s H' → RelE K w cl ι' H' ρ σ → Dn.ct σ H'
  | .ok (.rt d) s => ∀ ι' H' v, Ext ι H ι' H' → RelS K w cl ι' s H' → RelD K w cl ι' H' d v → Dn.rt v H'
  | .exc x ρ s => ∀ ι' H' σ c d, Ext ι H ι' H' → RelS K w cl ι' s H' → RelE K w cl ι' H' ρ σ → RelX K w cl ι' H' x c d → W c d σ H'
  | .bad => False
end
/-- an expression's, a test's, an argument list's, a statement's simulation -/
structure SE (X : Cx) (cl : Cl) (W : Wish) (e : Expr) (m : ME) : Prop where
  ex : ∃ t, PE X e t ∧ ∀ σ H Q ρ ι s, RelE X.K X.w cl ι H ρ σ → RelS X.K X.w cl ι s H → PoE X.K X.w cl W ι H σ Q (m ρ s) → t σ H Q
structure SB (X : Cx) (cl : Cl) (W : Wish) (e : Expr) (m : MT) : Prop where
  ex : ∃ t, PT X e t ∧ ∀ σ H Q ρ ι s, RelE X.K X.w cl ι H ρ σ → RelS X.K X.w cl ι s H → PoT X.K X.w cl W ι H σ Q (m ρ s) → t σ H Q
structure SA (X : Cx) (cl : Cl) (W : Wish) (es : List Expr) (m : MA) : Prop where
  ex : ∃ t, PA X es t ∧ ∀ σ H Q ρ ι s, RelE X.K X.w cl ι H ρ σ → RelS X.K X.w cl ι s H → PoA X.K X.w cl W ι H σ Q (m ρ s) → t σ H Q
structure SS (X : Cx) (cl : Cl) (W : Wish) (st : Stmt) (m : MS) : Prop where
  ex : ∃ t, PS X st t ∧ ∀ Dn σ H ρ ι s, RelE X.K X.w cl ι H ρ σ → RelS X.K X.w cl ι s H → PoS X.K X.w cl W ι H Dn (m ρ s) → t Dn σ H
structure SSs (X : Cx) (cl : Cl) (W : Wish) (sts : List Stmt) (m : MS) : Prop where
  ex : ∃ t, PSs X sts t ∧ ∀ Dn σ H ρ ι s, RelE X.K X.w cl ι H ρ σ → RelS X.K X.w cl ι s H → PoS X.K X.w cl W ι H Dn (m ρ s) → t Dn σ H

/-! ### ends compose -/
section
variable {K : PySem.W.Frag} {w : World} {cl : Cl} {W : Wish} {ι ι' : List Addr} {H H' : Hp} {σ : L2.St}
theorem PoE.mono {Q Q' : VK} {r : R D} (x : Ext ι H ι' H') (h : PoE K w cl W ι H σ Q r) (k : ∀ v H2, Q v H2 → Q' v H2) : PoE K w cl W ι' H' σ Q' r := by
  cases r with
  | ok d s => exact fun ι2 H2 v x2 rs rd => k _ _ (h ι2 H2 v (x.trans x2) rs rd)
  | exc d s => exact fun ι2 H2 c dd x2 => h ι2 H2 c dd (x.trans x2)
  | bad => exact h
theorem PoS.ext {Dn : Ends} {r : RS} (x : Ext ι H ι' H') (h : PoS K w cl W ι H Dn r) : PoS K w cl W ι' H' Dn r := by
  cases r with
  | ok c s => cases c <;> exact fun ι2 H2 v x2 => h ι2 H2 v (x.trans x2)
  | exc d ρ s => exact fun ι2 H2 σ c dd x2 => h ι2 H2 σ c dd (x.trans x2)
  | bad => exact h
/-- behind a first part -/
theorem PoE.step {Q : VK} {Q1 : VK} {r : R D} {f : D → S → R D} (h : PoE K w cl W ι H σ Q (r.bind f))
    (k : ∀ d s ι' H' v, r = .ok d s → Ext ι H ι' H' → RelS K w cl ι' s H' → RelD K w cl ι' H' d v → PoE K w cl W ι' H' σ Q (f d s) → Q1 v H') : PoE K w cl W ι H σ Q1 r := by
  cases r with
  | ok d s => exact fun ι2 H2 v x2 rs rd => k d s ι2 H2 v rfl x2 rs rd (PoE.mono x2 h fun _ _ q => q)
  | exc d s => exact h
  | bad => exact h
theorem PoE.stepA {Q : VK} {Q1 : List V → Hp → Prop} {r : R (List D)} {f : List D → S → R D} (h : PoE K w cl W ι H σ Q (r.bind f))
    (k : ∀ d s ι' H' v, r = .ok d s → Ext ι H ι' H' → RelS K w cl ι' s H' → RelDs K w cl ι' H' d v → PoE K w cl W ι' H' σ Q (f d s) → Q1 v H') : PoA K w cl W ι H σ Q1 r := by
  cases r with
  | ok d s => exact fun ι2 H2 v x2 rs rd => k d s ι2 H2 v rfl x2 rs rd (PoE.mono x2 h fun _ _ q => q)
  | exc d s => exact h
  | bad => exact h
theorem PoE.stepT {Q : VK} {Q1 : Bool → Hp → Prop} {r : R Bool} {f : Bool → S → R D} (h : PoE K w cl W ι H σ Q (r.bind f))
    (k : ∀ b s ι' H', r = .ok b s → Ext ι H ι' H' → RelS K w cl ι' s H' → PoE K w cl W ι' H' σ Q (f b s) → Q1 b H') : PoT K w cl W ι H σ Q1 r := by
  cases r with
  | ok d s => exact fun ι2 H2 x2 rs => k d s ι2 H2 rfl x2 rs (PoE.mono x2 h fun _ _ q => q)
  | exc d s => exact h
  | bad => exact h
theorem PoT.mono {Q Q' : Bool → Hp → Prop} {r : R Bool} (x : Ext ι H ι' H') (h : PoT K w cl W ι H σ Q r) (k : ∀ v H2, Q v H2 → Q' v H2) : PoT K w cl W ι' H' σ Q' r := by
  cases r with
  | ok d s => exact fun ι2 H2 x2 rs => k _ _ (h ι2 H2 (x.trans x2) rs)
  | exc d s => exact fun ι2 H2 c dd x2 => h ι2 H2 c dd (x.trans x2)
  | bad => exact h
theorem PoT.stepT {Q Q1 : Bool → Hp → Prop} {r : R Bool} {f : Bool → S → R Bool} (h : PoT K w cl W ι H σ Q (r.bind f))
    (k : ∀ b s ι' H', r = .ok b s → Ext ι H ι' H' → RelS K w cl ι' s H' → PoT K w cl W ι' H' σ Q (f b s) → Q1 b H') : PoT K w cl W ι H σ Q1 r := by
  cases r with
  | ok d s => exact fun ι2 H2 x2 rs => k d s ι2 H2 rfl x2 rs (PoT.mono x2 h fun _ _ q => q)
  | exc d s => exact h
  | bad => exact h
theorem PoT.stepE {Q : Bool → Hp → Prop} {Q1 : VK} {r : R D} {f : D → S → R Bool} (h : PoT K w cl W ι H σ Q (r.bind f))
    (k : ∀ d s ι' H' v, r = .ok d s → Ext ι H ι' H' → RelS K w cl ι' s H' → RelD K w cl ι' H' d v → PoT K w cl W ι' H' σ Q (f d s) → Q1 v H') : PoE K w cl W ι H σ Q1 r := by
  cases r with
  | ok d s => exact fun ι2 H2 v x2 rs rd => k d s ι2 H2 v rfl x2 rs rd (PoT.mono x2 h fun _ _ q => q)
  | exc d s => exact h
  | bad => exact h
theorem PoA.mono {Q Q' : List V → Hp → Prop} {r : R (List D)} (x : Ext ι H ι' H') (h : PoA K w cl W ι H σ Q r) (k : ∀ v H2, Q v H2 → Q' v H2) : PoA K w cl W ι' H' σ Q' r := by
  cases r with
  | ok d s => exact fun ι2 H2 v x2 rs rd => k _ _ (h ι2 H2 v (x.trans x2) rs rd)
  | exc d s => exact fun ι2 H2 c dd x2 => h ι2 H2 c dd (x.trans x2)
  | bad => exact h
theorem PoA.stepE {Q : List V → Hp → Prop} {Q1 : VK} {r : R D} {f : D → S → R (List D)} (h : PoA K w cl W ι H σ Q (r.bind f))
    (k : ∀ d s ι' H' v, r = .ok d s → Ext ι H ι' H' → RelS K w cl ι' s H' → RelD K w cl ι' H' d v → PoA K w cl W ι' H' σ Q (f d s) → Q1 v H') : PoE K w cl W ι H σ Q1 r := by
  cases r with
  | ok d s => exact fun ι2 H2 v x2 rs rd => k d s ι2 H2 v rfl x2 rs rd (PoA.mono x2 h fun _ _ q => q)
  | exc d s => exact h
  | bad => exact h
theorem PoA.stepA {Q : List V → Hp → Prop} {Q1 : List V → Hp → Prop} {r : R (List D)} {f : List D → S → R (List D)} (h : PoA K w cl W ι H σ Q (r.bind f))
    (k : ∀ d s ι' H' v, r = .ok d s → Ext ι H ι' H' → RelS K w cl ι' s H' → RelDs K w cl ι' H' d v → PoA K w cl W ι' H' σ Q (f d s) → Q1 v H') : PoA K w cl W ι H σ Q1 r := by
  cases r with
  | ok d s => exact fun ι2 H2 v x2 rs rd => k d s ι2 H2 v rfl x2 rs rd (PoA.mono x2 h fun _ _ q => q)
  | exc d s => exact h
  | bad => exact h
variable {Dn : Ends} {ρ : Rho}
theorem PoS.stepE {Q1 : VK} {r : R D} {f : D → S → RS} (e : RelE K w cl ι H ρ σ) (h : PoS K w cl W ι H Dn (r.st ρ f))
    (k : ∀ d s ι' H' v, r = .ok d s → Ext ι H ι' H' → RelS K w cl ι' s H' → RelD K w cl ι' H' d v → PoS K w cl W ι' H' Dn (f d s) → Q1 v H') : PoE K w cl W ι H σ Q1 r := by
  cases r with
  | ok d s => exact fun ι2 H2 v x2 rs rd => k d s ι2 H2 v rfl x2 rs rd (PoS.ext x2 h)
  | exc d s => exact fun ι2 H2 c dd x2 rs rx => h ι2 H2 σ c dd x2 rs (e.ext x2) rx
  | bad => exact h
theorem PoS.stepT {Q1 : Bool → Hp → Prop} {r : R Bool} {f : Bool → S → RS} (e : RelE K w cl ι H ρ σ) (h : PoS K w cl W ι H Dn (r.st ρ f))
    (k : ∀ b s ι' H', r = .ok b s → Ext ι H ι' H' → RelS K w cl ι' s H' → PoS K w cl W ι' H' Dn (f b s) → Q1 b H') : PoT K w cl W ι H σ Q1 r := by
  cases r with
  | ok d s => exact fun ι2 H2 x2 rs => k d s ι2 H2 rfl x2 rs (PoS.ext x2 h)
  | exc d s => exact fun ι2 H2 c dd x2 rs rx => h ι2 H2 σ c dd x2 rs (e.ext x2) rx
  | bad => exact h
theorem PoS.stepA {Q1 : List V → Hp → Prop} {r : R (List D)} {f : List D → S → RS} (e : RelE K w cl ι H ρ σ) (h : PoS K w cl W ι H Dn (r.st ρ f))
    (k : ∀ d s ι' H' v, r = .ok d s → Ext ι H ι' H' → RelS K w cl ι' s H' → RelDs K w cl ι' H' d v → PoS K w cl W ι' H' Dn (f d s) → Q1 v H') : PoA K w cl W ι H σ Q1 r := by
  cases r with
  | ok d s => exact fun ι2 H2 v x2 rs rd => k d s ι2 H2 v rfl x2 rs rd (PoS.ext x2 h)
  | exc d s => exact fun ι2 H2 c dd x2 rs rx => h ι2 H2 σ c dd x2 rs (e.ext x2) rx
  | bad => exact h
end
end Pm
namespace Pm
open PySem PySem.Spec PyProof.Rows L2

/-! ### expressions -/
def mVar (i : Nat) : ME := fun ρ s => match ρ[i]? with
  | some (some d) => .ok d s
  | _ => .bad
def mC (d : D) : ME := fun _ s => .ok d s
def m1 (f : D → S → R D) (a : ME) : ME := fun ρ s => (a ρ s).bind f
def m2 (f : D → D → S → R D) (a b : ME) : ME := fun ρ s => (a ρ s).bind fun x s1 => (b ρ s1).bind fun y s2 => f x y s2
def aNil : MA := fun _ s => .ok [] s
def aCons (a : ME) (r : MA) : MA := fun ρ s => (a ρ s).bind fun x s1 => (r ρ s1).bind fun xs s2 => .ok (x :: xs) s2
def mN (f : List D → S → R D) (a : MA) : ME := fun ρ s => (a ρ s).bind f
/-- a built-in type's method: the object, then the arguments -/
def mM (f : D → List D → S → R D) (a : ME) (as : MA) : ME := fun ρ s => (a ρ s).bind fun x s1 => (as ρ s1).bind fun xs s2 => f x xs s2
def mIf (c : MT) (a b : ME) : ME := fun ρ s => (c ρ s).bind fun k s1 => if k = true then a ρ s1 else b ρ s1
def tTru (f : D → S → Option Bool) (a : ME) : MT := fun ρ s => (a ρ s).bind fun d s1 => match f d s1 with
  | some b => .ok b s1
  | none => .bad
def tAnd2 (a b : MT) : MT := fun ρ s => (a ρ s).bind fun k s1 => if k = true then b ρ s1 else .ok false s1
def tOr2 (a b : MT) : MT := fun ρ s => (a ρ s).bind fun k s1 => if k = true then .ok true s1 else b ρ s1
def tNot1 (a : MT) : MT := fun ρ s => (a ρ s).bind fun k s1 => .ok (!k) s1
/-- a value that is a bool, as a test -/
def tBool (a : ME) : MT := fun ρ s => (a ρ s).bind fun d s1 => match d with
  | .bl b => .ok b s1
  | _ => .bad
/-- and, or, not as values over bools -/
def mAnd (a b : ME) : ME := fun ρ s => (a ρ s).bind fun d s1 => match d with
  | .bl true => b ρ s1
  | .bl false => .ok (.bl false) s1
  | _ => .bad
def mOr (a b : ME) : ME := fun ρ s => (a ρ s).bind fun d s1 => match d with
  | .bl true => .ok (.bl true) s1
  | .bl false => b ρ s1
  | _ => .bad
def mNot (a : ME) : ME := fun ρ s => (a ρ s).bind fun d s1 => match d with
  | .bl b => .ok (.bl (!b)) s1
  | _ => .bad
/-- a < b < c -/
def mChain (f g : D → D → S → R D) (a b c : ME) : ME := fun ρ s => (a ρ s).bind fun x s1 => (b ρ s1).bind fun y s2 => (f x y s2).bind fun k s3 => match k with
  | .bl true => (c ρ s3).bind fun z s4 => g y z s4
  | .bl false => .ok (.bl false) s3
  | _ => .bad

/-! ### rules by values: any rule of the layer will do -/
section
variable {X : Cx} {cl : Cl} {W : Wish}
def AnyOp (X : Cx) (f : Value → Value → Sem Value) : R2 := fun x y H Q => ∃ r, OpR X f r ∧ r x y H Q
theorem anyOp {f : Value → Value → Sem Value} : OpR X f (AnyOp X f) := fun pins s σ H x y v u Q I rx ry ⟨r, h, q⟩ => h pins s σ H x y v u Q I rx ry q
def AnyUn (X : Cx) (f : Value → Sem Value) : V → Hp → VK → Prop := fun x H Q => ∃ r, UnR X f r ∧ r x H Q
theorem anyUn {f : Value → Sem Value} : UnR X f (AnyUn X f) := fun pins s σ H x v Q I rx ⟨r, h, q⟩ => h pins s σ H x v Q I rx q
def AnyCall (X : Cx) (f : Value) : List V → Hp → VK → Prop := fun xs H Q => ∃ r, CallR X f r ∧ r xs H Q
theorem anyCall {f : Value} : CallR X f (AnyCall X f) := fun pins s σ H xs us Q I rx ⟨r, h, q⟩ => h pins s σ H xs us Q I rx q
def AnyIx (X : Cx) : R2 := fun x y H Q => ∃ r, IxR X r ∧ r x y H Q
theorem anyIx : IxR X (AnyIx X) := fun a b pins s σ H x y v u Q I rx ry ⟨r, h, q⟩ => h a b pins s σ H x y v u Q I rx ry q
def AnyMt (X : Cx) (id : String) : V → List V → Hp → VK → Prop := fun x xs H Q => ∃ r, MtR X id r ∧ r x xs H Q
theorem anyMt {id : String} : MtR X id (AnyMt X id) := fun pins s σ H x xs v us Q I rx rxs ⟨r, h, q⟩ => h pins s σ H x xs v us Q I rx rxs q
def OpD (X : Cx) (cl : Cl) (f : Value → Value → Sem Value) (g : D → D → S → R D) : Prop :=
  ∀ (W : Wish) (ι : List Addr) (H : Hp) (σ : L2.St) (Q : VK) (s : S) (dx dy : D) (x y : V), RelS X.K X.w cl ι s H → RelD X.K X.w cl ι H dx x → RelD X.K X.w cl ι H dy y → PoE X.K X.w cl W ι H σ Q (g dx dy s) → AnyOp X f x y H Q
def UnD (X : Cx) (cl : Cl) (f : Value → Sem Value) (g : D → S → R D) : Prop :=
  ∀ (W : Wish) (ι : List Addr) (H : Hp) (σ : L2.St) (Q : VK) (s : S) (dx : D) (x : V), RelS X.K X.w cl ι s H → RelD X.K X.w cl ι H dx x → PoE X.K X.w cl W ι H σ Q (g dx s) → AnyUn X f x H Q
def CallD (X : Cx) (cl : Cl) (f : Value) (g : List D → S → R D) : Prop :=
  ∀ (W : Wish) (ι : List Addr) (H : Hp) (σ : L2.St) (Q : VK) (s : S) (ds : List D) (xs : List V), RelS X.K X.w cl ι s H → RelDs X.K X.w cl ι H ds xs → PoE X.K X.w cl W ι H σ Q (g ds s) → AnyCall X f xs H Q
def IxD (X : Cx) (cl : Cl) (g : D → D → S → R D) : Prop :=
  ∀ (W : Wish) (ι : List Addr) (H : Hp) (σ : L2.St) (Q : VK) (s : S) (dx dy : D) (x y : V), RelS X.K X.w cl ι s H → RelD X.K X.w cl ι H dx x → RelD X.K X.w cl ι H dy y → PoE X.K X.w cl W ι H σ Q (g dx dy s) → AnyIx X x y H Q

theorem se_var {x : Str} {pos : Pos} (i : Nat) (hN : X.N[i]? = some x := by rfl) (hv : Vis X.env.scope x := by first | exact Or.inl rfl | exact Or.inr (Or.inl rfl) | exact Or.inr (Or.inr rfl)) (hd : (x == ("__debug__" : Str)) = false := by decide)
    (hcd : (x == ("__classdict__" : Str)) = false := by decide) : SE X cl W (.Name x pos) (mVar i) := by
  refine ⟨_, pe_var hN hv hd hcd, fun σ H Q ρ ι s e r h => ?_⟩
  unfold mVar at h
  split at h
  · rename_i d hd'
    obtain ⟨v, hv', rd⟩ := e.at_ i d hd'
    exact ⟨v, hv', h ι H v (Ext.refl _ _) r rd⟩
  · exact False.elim h
theorem se_con {e : Expr} {d : D} {v : V} (h : PE X e (tC v)) (r : ∀ ι H, RelD X.K X.w cl ι H d v) : SE X cl W e (mC d) :=
  ⟨_, h, fun σ H Q ρ ι s _ rs q => q ι H v (Ext.refl _ _) rs (r ι H)⟩
theorem se_int {i j pos} : SE X cl W (.Constant (.int i) j pos) (mC (.int i)) := se_con pe_int fun _ _ => .int i
theorem se_bl {b j pos} : SE X cl W (.Constant (.bool b) j pos) (mC (.bl b)) := se_con pe_bl fun _ _ => .bl b
theorem se_non {j pos} : SE X cl W (.Constant .none j pos) (mC .non) := se_con pe_non fun _ _ => .non
theorem se_str {x j pos} : SE X cl W (.Constant (.str x) j pos) (mC (.str x)) := se_con pe_str fun _ _ => .str x
theorem se_glob {x : Str} {d : D} {v : V} {u : Value} {pos : Pos} (hg : Gl X x) (hm : X.mg x = some u) (rv : RelV v u) (r : ∀ ι H, RelD X.K X.w cl ι H d v) (hd : (x == ("__debug__" : Str)) = false := by decide) : SE X cl W (.Name x pos) (mC d) :=
  se_con (pe_glob hg hm rv hd) r
variable {a b c : Expr} {ma mb mc : ME} {pos : Pos}
theorem se_op {op : Operator} {g : D → D → S → R D} (ho : OpD X cl (binaryOp op) g) (ha : SE X cl W a ma) (hb : SE X cl W b mb) : SE X cl W (.BinOp a op b pos) (m2 g ma mb) := by
  obtain ⟨ta, pa, qa⟩ := ha.ex
  obtain ⟨tb, pb, qb⟩ := hb.ex
  refine ⟨_, pe_op anyOp pa pb, fun σ H Q ρ ι s e r h => ?_⟩
  refine qa σ H _ ρ ι s e r (PoE.step h fun d s1 ι1 H1 v e1 x1 r1 d1 h1 => ?_)
  refine qb σ H1 _ ρ ι1 s1 (e.ext x1) r1 (PoE.step h1 fun d2 s2 ι2 H2 v2 e2 x2 r2 dd2 h2 => ?_)
  exact ho W ι2 H2 σ Q s2 d d2 v v2 r2 (d1.ext x2) dd2 h2
theorem se_un {op : UnaryOp} {g : D → S → R D} (ho : UnD X cl (unaryOp op) g) (ha : SE X cl W a ma) : SE X cl W (.UnaryOp op a pos) (m1 g ma) := by
  obtain ⟨ta, pa, qa⟩ := ha.ex
  refine ⟨_, pe_un anyUn pa, fun σ H Q ρ ι s e r h => ?_⟩
  refine qa σ H _ ρ ι s e r (PoE.step h fun d s1 ι1 H1 v e1 x1 r1 d1 h1 => ?_)
  exact ho W ι1 H1 σ Q s1 d v r1 d1 h1
theorem se_cmp {op : CmpOp} {g : D → D → S → R D} (ho : OpD X cl (compareOp op) g) (ha : SE X cl W a ma) (hb : SE X cl W b mb) (hm : behindInMarks op b = false := by first | exact nomark _ | rfl) : SE X cl W (.Compare a [op] [b] pos) (m2 g ma mb) := by
  obtain ⟨ta, pa, qa⟩ := ha.ex
  obtain ⟨tb, pb, qb⟩ := hb.ex
  refine ⟨_, pe_cmpR anyOp pa pb hm, fun σ H Q ρ ι s e r h => ?_⟩
  refine qa σ H _ ρ ι s e r (PoE.step h fun d s1 ι1 H1 v e1 x1 r1 d1 h1 => ?_)
  refine qb σ H1 _ ρ ι1 s1 (e.ext x1) r1 (PoE.step h1 fun d2 s2 ι2 H2 v2 e2 x2 r2 dd2 h2 => ?_)
  exact ho W ι2 H2 σ Q s2 d d2 v v2 r2 (d1.ext x2) dd2 h2
theorem sb_cmp {op : CmpOp} {g : D → D → S → R D} (ho : OpD X cl (compareOp op) g) (ha : SE X cl W a ma) (hb : SE X cl W b mb) (hm : behindInMarks op b = false := by first | exact nomark _ | rfl) : SB X cl W (.Compare a [op] [b] pos) (tBool (m2 g ma mb)) := by
  obtain ⟨ta, pa, qa⟩ := ha.ex
  obtain ⟨tb, pb, qb⟩ := hb.ex
  refine ⟨_, pt_cmpR anyOp pa pb hm, fun σ H Q ρ ι s e r h => ?_⟩
  unfold tBool m2 at h
  have h' : PoT X.K X.w cl W ι H σ Q ((ma ρ s).bind fun x s1 => (mb ρ s1).bind fun y s2 => (g x y s2).bind fun d s3 => match d with | .bl b => .ok b s3 | _ => .bad) := by
    cases e1 : ma ρ s <;> simp only [e1, R.bind] at h ⊢ <;> try exact h
    rename_i d1 s1
    cases e2 : mb ρ s1 <;> simp only [e2, R.bind] at h ⊢ <;> exact h
  refine qa σ H _ ρ ι s e r (PoT.stepE h' fun d s1 ι1 H1 v e1 x1 r1 d1 h1 => ?_)
  refine qb σ H1 _ ρ ι1 s1 (e.ext x1) r1 (PoT.stepE h1 fun d2 s2 ι2 H2 v2 e2 x2 r2 dd2 h2 => ?_)
  refine ho W ι2 H2 σ _ s2 d d2 v v2 r2 (d1.ext x2) dd2 (PoT.stepE h2 fun d3 s3 ι3 H3 v3 e3 x3 r3 dd3 h3 => ?_)
  cases dd3 <;> first
    | exact ⟨_, rfl, h3 ι3 H3 (Ext.refl _ _) r3⟩
    | exact False.elim h3
/-- any expression whose value is a bool, as a test -/
theorem sb_val (ha : SE X cl W a ma) (he : ∀ whole, isTrue a X.env whole = (do let v ← whole; standAt a.pos; holding [v] (truthy v)) := by intro _; rfl) : SB X cl W a (tBool ma) := by
  obtain ⟨ta, pa, qa⟩ := ha.ex
  refine ⟨_, pt_truth pa he, fun σ H Q ρ ι s e r h => ?_⟩
  refine qa σ H _ ρ ι s e r (PoT.stepE h fun d3 s3 ι3 H3 v3 e3 x3 r3 dd3 h3 => ?_)
  cases dd3 <;> first
    | exact ⟨_, rfl, h3 ι3 H3 (Ext.refl _ _) r3⟩
    | exact False.elim h3
/-- a value's truth -/
def dTru : D → S → Option Bool
  | .non, _ => some false
  | .bl b, _ => some b
  | .int i, _ => some (i != 0)
  | .str x, _ => if x.length ≤ sizeLine then some ((x.length : Int) != 0) else none
  | .tup xs, _ => some (!xs.isEmpty)
  | .lst xs, _ => some (!xs.isEmpty)
  | .ref n, s => match s[n]? with
    | some (.lst xs) => some (!xs.isEmpty)
    | _ => none
  | _, _ => none
theorem RelDs.length {K : PySem.W.Frag} {w : World} {ι : List Addr} {H : Hp} : ∀ {ds : List D} {vs : List V}, RelDs K w cl ι H ds vs → ds.length = vs.length
  | _, _, .nil => rfl
  | _, _, .cons _ t => congrArg (· + 1) (RelDs.length t)
theorem RelDs.isEmpty {K : PySem.W.Frag} {w : World} {ι : List Addr} {H : Hp} {ds : List D} {vs : List V} : RelDs K w cl ι H ds vs → ds.isEmpty = vs.isEmpty
  | .nil => rfl
  | .cons _ _ => rfl
theorem dTru_ok {K : PySem.W.Frag} {w : World} {ι : List Addr} {H : Hp} {s : S} {d : D} {v : V} {b : Bool} (rs : RelS K w cl ι s H) (r : RelD K w cl ι H d v) (h : dTru d s = some b) : TruV K v H b := by
  cases r <;> simp only [dTru] at h
  · exact (Option.some.inj h).symm
  · exact (Option.some.inj h).symm
  · exact (Option.some.inj h).symm
  · split at h
    · exact ⟨by assumption, (Option.some.inj h).symm⟩
    · cases h
  · rename_i h1 r1
    exact .inr (.inl ⟨_, h1.sq, by rw [← r1.isEmpty]; exact (Option.some.inj h).symm⟩)
  · rename_i h1 r1
    exact .inl ⟨_, h1.sq, by rw [← r1.isEmpty]; exact (Option.some.inj h).symm⟩
  · rename_i n a h1
    split at h
    · rename_i xs e
      obtain ⟨a', ea, vs, ha, r1⟩ := rs.at_ n _ e
      rw [h1] at ea
      cases ea
      exact .inl ⟨_, SqL.of ha, by rw [← r1.isEmpty]; exact (Option.some.inj h).symm⟩
    · cases h
  all_goals cases h
theorem sb_tru (ha : SE X cl W a ma) (he : ∀ whole, isTrue a X.env whole = (do let v ← whole; standAt a.pos; holding [v] (truthy v)) := by intro _; rfl) : SB X cl W a (tTru dTru ma) := by
  obtain ⟨ta, pa, qa⟩ := ha.ex
  refine ⟨_, pt_truth pa he, fun σ H Q ρ ι s e r h => ?_⟩
  refine qa σ H _ ρ ι s e r (PoT.stepE h fun d3 s3 ι3 H3 v3 e3 x3 r3 dd3 h3 => ?_)
  split at h3
  · rename_i b eb
    exact ⟨b, dTru_ok r3 dd3 eb, h3 ι3 H3 (Ext.refl _ _) r3⟩
  · exact False.elim h3
variable {ta tb : MT}
theorem sb_not (ha : SB X cl W a ta) : SB X cl W (.UnaryOp .Not a pos) (tNot1 ta) := by
  obtain ⟨t, pa, qa⟩ := ha.ex
  refine ⟨_, pt_not pa, fun σ H Q ρ ι s e r h => ?_⟩
  exact qa σ H _ ρ ι s e r (PoT.stepT h fun k s1 ι1 H1 e1 x1 r1 h1 => h1 ι1 H1 (Ext.refl _ _) r1)
/-- a test whatever its 'whole' is -/
structure SW (X : Cx) (cl : Cl) (W : Wish) (e : Expr) (m : MT) : Prop where
  ex : ∃ t, PW X e t ∧ ∀ σ H Q ρ ι s, RelE X.K X.w cl ι H ρ σ → RelS X.K X.w cl ι s H → PoT X.K X.w cl W ι H σ Q (m ρ s) → t σ H Q
theorem sw_and1 (ha : SB X cl W a ta) : SW X cl W (.BoolOp .And [a] pos) ta := by
  obtain ⟨t, pa, qa⟩ := ha.ex
  exact ⟨_, pw_and1 pa, qa⟩
theorem sw_or1 (ha : SB X cl W a ta) : SW X cl W (.BoolOp .Or [a] pos) ta := by
  obtain ⟨t, pa, qa⟩ := ha.ex
  exact ⟨_, pw_or1 pa, qa⟩
variable {rest : List Expr}
theorem sw_and (ha : SB X cl W a ta) (hb : SW X cl W (.BoolOp .And (b :: rest) pos) tb) : SW X cl W (.BoolOp .And (a :: b :: rest) pos) (tAnd2 ta tb) := by
  obtain ⟨t, pa, qa⟩ := ha.ex
  obtain ⟨u, pb, qb⟩ := hb.ex
  refine ⟨_, pw_and pa pb, fun σ H Q ρ ι s e r h => ?_⟩
  refine qa σ H _ ρ ι s e r (PoT.stepT h fun k s1 ι1 H1 e1 x1 r1 h1 => ?_)
  cases k with
  | true => exact qb σ H1 _ ρ ι1 s1 (e.ext x1) r1 h1
  | false => exact h1 ι1 H1 (Ext.refl _ _) r1
theorem sw_or (ha : SB X cl W a ta) (hb : SW X cl W (.BoolOp .Or (b :: rest) pos) tb) : SW X cl W (.BoolOp .Or (a :: b :: rest) pos) (tOr2 ta tb) := by
  obtain ⟨t, pa, qa⟩ := ha.ex
  obtain ⟨u, pb, qb⟩ := hb.ex
  refine ⟨_, pw_or pa pb, fun σ H Q ρ ι s e r h => ?_⟩
  refine qa σ H _ ρ ι s e r (PoT.stepT h fun k s1 ι1 H1 e1 x1 r1 h1 => ?_)
  cases k with
  | true => exact h1 ι1 H1 (Ext.refl _ _) r1
  | false => exact qb σ H1 _ ρ ι1 s1 (e.ext x1) r1 h1
theorem sb_bool (h : SW X cl W a ta) : SB X cl W a ta := by
  obtain ⟨t, pa, qa⟩ := h.ex
  exact ⟨_, pa.pt, qa⟩
theorem se_if {c : Expr} {tc : MT} (hc : SB X cl W c tc) (ha : SE X cl W a ma) (hb : SE X cl W b mb) : SE X cl W (.IfExp c a b pos) (mIf tc ma mb) := by
  obtain ⟨t, pc, qc⟩ := hc.ex
  obtain ⟨ta, pa, qa⟩ := ha.ex
  obtain ⟨tb, pb, qb⟩ := hb.ex
  refine ⟨_, pe_ifExp pc pa pb, fun σ H Q ρ ι s e r h => ?_⟩
  refine qc σ H _ ρ ι s e r (PoE.stepT h fun k s1 ι1 H1 e1 x1 r1 h1 => ?_)
  cases k with
  | true => exact qa σ H1 _ ρ ι1 s1 (e.ext x1) r1 h1
  | false => exact qb σ H1 _ ρ ι1 s1 (e.ext x1) r1 h1
theorem se_one {op} (h : SE X cl W a ma) : SE X cl W (.BoolOp op [a] pos) ma := by
  obtain ⟨ta, pa, qa⟩ := h.ex
  exact ⟨_, pe_one pa, qa⟩
theorem se_and (ha : SE X cl W a ma) (hb : SE X cl W (.BoolOp .And (b :: rest) pos) mb) : SE X cl W (.BoolOp .And (a :: b :: rest) pos) (mAnd ma mb) := by
  obtain ⟨ta, pa, qa⟩ := ha.ex
  obtain ⟨tb, pb, qb⟩ := hb.ex
  refine ⟨_, pe_and pa pb, fun σ H Q ρ ι s e r h => ?_⟩
  refine qa σ H _ ρ ι s e r (PoE.step h fun d s1 ι1 H1 v e1 x1 r1 d1 h1 => ?_)
  cases d1 <;> first
    | (rename_i k
       cases k with
       | true => exact ⟨true, rfl, qb σ H1 _ ρ ι1 s1 (e.ext x1) r1 h1⟩
       | false => exact ⟨false, rfl, h1 ι1 H1 _ (Ext.refl _ _) r1 (.bl _)⟩)
    | exact False.elim h1
theorem se_or (ha : SE X cl W a ma) (hb : SE X cl W (.BoolOp .Or (b :: rest) pos) mb) : SE X cl W (.BoolOp .Or (a :: b :: rest) pos) (mOr ma mb) := by
  obtain ⟨ta, pa, qa⟩ := ha.ex
  obtain ⟨tb, pb, qb⟩ := hb.ex
  refine ⟨_, pe_or pa pb, fun σ H Q ρ ι s e r h => ?_⟩
  refine qa σ H _ ρ ι s e r (PoE.step h fun d s1 ι1 H1 v e1 x1 r1 d1 h1 => ?_)
  cases d1 <;> first
    | (rename_i k
       cases k with
       | true => exact ⟨true, rfl, h1 ι1 H1 _ (Ext.refl _ _) r1 (.bl _)⟩
       | false => exact ⟨false, rfl, qb σ H1 _ ρ ι1 s1 (e.ext x1) r1 h1⟩)
    | exact False.elim h1
theorem se_not (ha : SE X cl W a ma) : SE X cl W (.UnaryOp .Not a pos) (mNot ma) := by
  obtain ⟨ta, pa, qa⟩ := ha.ex
  refine ⟨_, pe_not pa, fun σ H Q ρ ι s e r h => ?_⟩
  refine qa σ H _ ρ ι s e r (PoE.step h fun d s1 ι1 H1 v e1 x1 r1 d1 h1 => ?_)
  cases d1 <;> first
    | exact ⟨_, rfl, h1 ι1 H1 _ (Ext.refl _ _) r1 (.bl _)⟩
    | exact False.elim h1
theorem tBool_po {K : PySem.W.Frag} {w : World} {ι : List Addr} {H : Hp} {σ : L2.St} {Q : Bool → Hp → Prop} {m : ME} {ρ : Rho} {s : S} (h : PoT K w cl W ι H σ Q (tBool m ρ s)) : PoE K w cl W ι H σ (fun v H' => ∃ k, v = .bl k ∧ Q k H') (m ρ s) := by
  unfold tBool at h
  cases e1 : m ρ s with
  | bad => rw [e1] at h; exact h
  | exc x s1 => rw [e1] at h; exact h
  | ok d s1 =>
    rw [e1] at h
    simp only [R.bind] at h
    intro ι' H' v x r rd
    cases rd <;> first
      | exact ⟨_, rfl, h ι' H' x r⟩
      | exact False.elim h
theorem chain_rd {op op' : CmpOp} {f g : D → D → S → R D} (ho : OpD X cl (compareOp op) f) (ho' : OpD X cl (compareOp op') g) {ta tb tc : TE}
    (qa : ∀ σ H Q ρ ι s, RelE X.K X.w cl ι H ρ σ → RelS X.K X.w cl ι s H → PoE X.K X.w cl W ι H σ Q (ma ρ s) → ta σ H Q) (qb : ∀ σ H Q ρ ι s, RelE X.K X.w cl ι H ρ σ → RelS X.K X.w cl ι s H → PoE X.K X.w cl W ι H σ Q (mb ρ s) → tb σ H Q)
    (qc : ∀ σ H Q ρ ι s, RelE X.K X.w cl ι H ρ σ → RelS X.K X.w cl ι s H → PoE X.K X.w cl W ι H σ Q (mc ρ s) → tc σ H Q) {σ : L2.St} {H : Hp} {Q : VK} {ρ : Rho} {ι : List Addr} {s : S} (e : RelE X.K X.w cl ι H ρ σ) (r : RelS X.K X.w cl ι s H)
    (h : PoE X.K X.w cl W ι H σ Q (mChain f g ma mb mc ρ s)) : tChain (AnyOp X (compareOp op)) (AnyOp X (compareOp op')) ta tb tc σ H Q := by
  refine qa σ H _ ρ ι s e r (PoE.step h fun d s1 ι1 H1 v e1 x1 r1 d1 h1 => ?_)
  refine qb σ H1 _ ρ ι1 s1 (e.ext x1) r1 (PoE.step h1 fun d2 s2 ι2 H2 v2 e2 x2 r2 dd2 h2 => ?_)
  refine ho W ι2 H2 σ _ s2 d d2 v v2 r2 (d1.ext x2) dd2 (PoE.step h2 fun d3 s3 ι3 H3 v3 e3 x3 r3 dd3 h3 => ?_)
  cases dd3 <;> first
    | (rename_i k
       cases k with
       | true =>
         refine ⟨true, rfl, ?_⟩
         refine qc σ H3 _ ρ ι3 s3 (((e.ext x1).ext x2).ext x3) r3 (PoE.step h3 fun d4 s4 ι4 H4 v4 e4 x4 r4 dd4 h4 => ?_)
         exact ho' W ι4 H4 σ Q s4 d2 d4 v2 v4 r4 ((dd2.ext x3).ext x4) dd4 h4
       | false => exact ⟨false, rfl, h3 ι3 H3 _ (Ext.refl _ _) r3 (.bl _)⟩)
    | exact False.elim h3
theorem se_chain {op op' : CmpOp} {f g : D → D → S → R D} (ho : OpD X cl (compareOp op) f) (ho' : OpD X cl (compareOp op') g) (ha : SE X cl W a ma) (hb : SE X cl W b mb) (hc : SE X cl W c mc)
    (hm : lastMarks [op, op'] [b, c] = false := by with_unfolding_all rfl) : SE X cl W (.Compare a [op, op'] [b, c] pos) (mChain f g ma mb mc) := by
  obtain ⟨ta, pa, qa⟩ := ha.ex
  obtain ⟨tb, pb, qb⟩ := hb.ex
  obtain ⟨tc, pc, qc⟩ := hc.ex
  refine ⟨_, pe_chain anyOp anyOp pa pb pc hm, fun σ H Q ρ ι s e r h => chain_rd ho ho' qa qb qc e r h⟩
theorem sb_chain {op op' : CmpOp} {f g : D → D → S → R D} (ho : OpD X cl (compareOp op) f) (ho' : OpD X cl (compareOp op') g) (ha : SE X cl W a ma) (hb : SE X cl W b mb) (hc : SE X cl W c mc)
    (hm : lastMarks [op, op'] [b, c] = false := by with_unfolding_all rfl) : SB X cl W (.Compare a [op, op'] [b, c] pos) (tBool (mChain f g ma mb mc)) := by
  obtain ⟨ta, pa, qa⟩ := ha.ex
  obtain ⟨tb, pb, qb⟩ := hb.ex
  obtain ⟨tc, pc, qc⟩ := hc.ex
  exact ⟨_, pt_chain anyOp anyOp pa pb pc hm, fun σ H Q ρ ι s e r h => chain_rd ho ho' qa qb qc e r (tBool_po h)⟩
end
end Pm
namespace Pm
open PySem PySem.Spec PyProof.Rows L2

/-! ### sequences -/
def lview (s : S) : D → Option (List D)
  | .lst xs => some xs
  | .ref n => match s[n]? with
    | some (.lst xs) => some xs
    | _ => none
  | _ => none
section
variable {X : Cx} {cl : Cl} {W : Wish} {K : PySem.W.Frag} {w : World} {ι : List Addr} {H : Hp} {s : S}
theorem lview_at {d : D} {xs : List D} {v : V} (rs : RelS K w cl ι s H) (r : RelD K w cl ι H d v) (h : lview s d = some xs) : ∃ a vs, v = .ref a ∧ LsQ K H a vs ∧ RelDs K w cl ι H xs vs := by
  cases r <;> simp only [lview] at h <;> try cases h
  · rename_i h1 r1
    exact ⟨_, _, rfl, h1.ls, r1⟩
  · rename_i n a h1
    split at h
    · rename_i ys e
      cases h
      obtain ⟨a', ea, vs, ha, r1⟩ := rs.at_ n _ e
      rw [h1] at ea
      cases ea
      exact ⟨_, _, rfl, .inl (.inl ha), r1⟩
    · cases h
theorem RelDs.append {xs ys : List D} {vs us : List V} : RelDs K w cl ι H xs vs → RelDs K w cl ι H ys us → RelDs K w cl ι H (xs ++ ys) (vs ++ us)
  | .nil, q => q
  | .cons r t, q => .cons r (RelDs.append t q)
theorem RelDs.get : ∀ {xs : List D} {vs : List V} {i : Nat} {d : D}, RelDs K w cl ι H xs vs → xs[i]? = some d → ∃ v, vs[i]? = some v ∧ RelD K w cl ι H d v
  | _, _, _, _, .nil, e => by simp at e
  | _, _, 0, _, .cons r _, e => by simp at e; subst e; exact ⟨_, rfl, r⟩
  | _, _, i + 1, d, .cons _ t, e => by
    obtain ⟨u, h1, h2⟩ := RelDs.get (i := i) (d := d) t (by simpa using e)
    exact ⟨u, by simpa using h1, h2⟩
theorem RelDs.set {d : D} {v : V} (r : RelD K w cl ι H d v) : ∀ {xs : List D} {vs : List V} (i : Nat), RelDs K w cl ι H xs vs → RelDs K w cl ι H (xs.set i d) (vs.set i v)
  | _, _, _, .nil => .nil
  | _, _, 0, .cons _ t => .cons r t
  | _, _, i + 1, .cons q t => .cons q (RelDs.set r i t)
theorem RelDs.take : ∀ {xs : List D} {vs : List V} (n : Nat), RelDs K w cl ι H xs vs → RelDs K w cl ι H (xs.take n) (vs.take n)
  | _, _, 0, _ => .nil
  | _, _, _ + 1, .nil => .nil
  | _, _, n + 1, .cons r t => .cons r (RelDs.take n t)
theorem RelDs.drop : ∀ {xs : List D} {vs : List V} (n : Nat), RelDs K w cl ι H xs vs → RelDs K w cl ι H (xs.drop n) (vs.drop n)
  | _, _, 0, r => r
  | _, _, _ + 1, .nil => .nil
  | _, _, n + 1, .cons _ t => RelDs.drop n t
theorem RelDs.reverse {xs : List D} {vs : List V} (h : RelDs K w cl ι H xs vs) : RelDs K w cl ι H xs.reverse vs.reverse := by
  induction xs generalizing vs with
  | nil => cases h; exact .nil
  | cons d ds ih =>
    cases h with
    | cons r t =>
      rw [List.reverse_cons, List.reverse_cons]
      exact (ih t).append (.cons r .nil)
theorem RelDs.dropLast : ∀ {xs : List D} {vs : List V}, RelDs K w cl ι H xs vs → RelDs K w cl ι H xs.dropLast vs.dropLast
  | _, _, .nil => .nil
  | _, _, .cons _ .nil => .nil
  | _, _, .cons r (.cons q t) => .cons r (RelDs.dropLast (.cons q t))
theorem RelDs.rep {xs : List D} {vs : List V} (h : RelDs K w cl ι H xs vs) : ∀ k : Nat, RelDs K w cl ι H (List.replicate k xs).flatten (List.replicate k vs).flatten
  | 0 => .nil
  | k + 1 => by
    rw [List.replicate_succ, List.replicate_succ, List.flatten_cons, List.flatten_cons]
    exact h.append (RelDs.rep h k)
theorem RelDs.one {d : D} {vs : List V} (h : RelDs K w cl ι H [d] vs) : ∃ v, vs = [v] ∧ RelD K w cl ι H d v := by
  cases h with
  | cons r t => cases t; exact ⟨_, rfl, r⟩
theorem RelDs.two {d e : D} {vs : List V} (h : RelDs K w cl ι H [d, e] vs) : ∃ v u, vs = [v, u] ∧ RelD K w cl ι H d v ∧ RelD K w cl ι H e u := by
  cases h with
  | cons r t => cases t with
    | cons q t2 => cases t2; exact ⟨_, _, rfl, r, q⟩
theorem RelDs.zero {vs : List V} (h : RelDs K w cl ι H [] vs) : vs = [] := by
  cases h; rfl
/-- a new list, tuple that the store does not know -/
theorem new_lst {xs : List D} {vs : List V} {p : Addr} (rs : RelS K w cl ι s H) (r : RelDs K w cl ι H xs vs) (hp : H p = none) : Ext ι H ι (upd H p (.lst vs)) ∧ RelS K w cl ι s (upd H p (.lst vs)) ∧ RelD K w cl ι (upd H p (.lst vs)) (.lst xs) (.ref p) := by
  have x : Ext ι H ι (upd H p (.lst vs)) := Ext.new hp
  have np : p ∉ ι := fun m => by
    obtain ⟨n, hn⟩ := List.getElem?_of_mem m
    have hlt : n < s.length := by rw [← rs.len]; exact (List.getElem?_eq_some_iff.mp hn).1
    obtain ⟨a, ea, ro⟩ := rs.at_ n s[n] (List.getElem?_eq_getElem hlt)
    rw [hn] at ea
    cases ea
    cases e : s[n] <;> rw [e] at ro
    · obtain ⟨vs, h1, _⟩ := ro; rw [hp] at h1; cases h1
    · obtain ⟨_, _, _, _, _, h1, _⟩ := ro; rw [hp] at h1; cases h1
    · obtain ⟨vs, h1, _⟩ := ro; rw [hp] at h1; cases h1
  refine ⟨x, ⟨rs.len, rs.nd, fun n o e => ?_⟩, .lst (.inl ⟨.inl upd_same, np⟩) (r.ext x)⟩
  obtain ⟨a, ea, ro⟩ := rs.at_ n o e
  refine ⟨a, ea, ?_⟩
  have na : a ≠ p := fun z => np (by rw [← z]; exact List.mem_of_getElem? ea)
  cases o with
  | lst ds => obtain ⟨us, h1, h2⟩ := ro; exact ⟨us, by rw [upd_ne na]; exact h1, h2.ext x⟩
  | ins c fs => obtain ⟨A, dx, us, hc, hk, h1, h2⟩ := ro; exact ⟨A, dx, us, hc, hk, by rw [upd_ne na]; exact h1, h2.ext x⟩
  | dK kvs => obtain ⟨us, h1, hk, h2⟩ := ro; exact ⟨us, by rw [upd_ne na]; exact h1, hk, h2.ext x⟩
theorem RelS.notin {p : Addr} (rs : RelS K w cl ι s H) (hp : H p = none) : p ∉ ι := fun m => by
  obtain ⟨n, hn⟩ := List.getElem?_of_mem m
  have hlt : n < s.length := by rw [← rs.len]; exact (List.getElem?_eq_some_iff.mp hn).1
  obtain ⟨a, ea, ro⟩ := rs.at_ n s[n] (List.getElem?_eq_getElem hlt)
  rw [hn] at ea
  cases ea
  cases e : s[n] <;> rw [e] at ro
  · obtain ⟨vs, h1, _⟩ := ro; rw [hp] at h1; cases h1
  · obtain ⟨_, _, _, _, _, h1, _⟩ := ro; rw [hp] at h1; cases h1
  · obtain ⟨vs, h1, _⟩ := ro; rw [hp] at h1; cases h1
theorem RelO.ext {o : O} {a : Addr} {ι' : List Addr} {H' : Hp} (x : Ext ι H ι' H') (e : H' a = H a) (ro : RelO K w cl ι H o a) : RelO K w cl ι' H' o a := by
  cases o with
  | lst ds => obtain ⟨us, h1, h2⟩ := ro; exact ⟨us, by rw [e]; exact h1, h2.ext x⟩
  | ins c fs => obtain ⟨A, dx, us, hc, hk, h1, h2⟩ := ro; exact ⟨A, dx, us, hc, hk, by rw [e]; exact h1, h2.ext x⟩
  | dK kvs => obtain ⟨us, h1, hk, h2⟩ := ro; exact ⟨us, by rw [e]; exact h1, hk, h2.ext x⟩
/-- anything new that the store does not know -/
theorem RelS.laid {p : Addr} {o : HO} (rs : RelS K w cl ι s H) (hp : H p = none) : RelS K w cl ι s (upd H p o) :=
  ⟨rs.len, rs.nd, fun n o' e => let ⟨a, ea, ro⟩ := rs.at_ n o' e; ⟨a, ea, ro.ext (Ext.new hp) (upd_ne fun z => rs.notin hp (by rw [← z]; exact List.mem_of_getElem? ea))⟩⟩
theorem new_tup {xs : List D} {vs : List V} {p : Addr} (rs : RelS K w cl ι s H) (r : RelDs K w cl ι H xs vs) (hp : H p = none) : Ext ι H ι (upd H p (.tup vs)) ∧ RelS K w cl ι s (upd H p (.tup vs)) ∧ RelD K w cl ι (upd H p (.tup vs)) (.tup xs) (.ref p) :=
  ⟨Ext.new hp, rs.laid hp, .tup (.inl ⟨.inl upd_same, rs.notin hp⟩) (r.ext (Ext.new hp))⟩
/-- a new thing of the store -/
theorem RelS.push {p : Addr} {o : HO} {ob : O} (rs : RelS K w cl ι s H) (hp : H p = none) (ro : RelO K w cl (ι ++ [p]) (upd H p o) ob p) : RelS K w cl (ι ++ [p]) (s ++ [ob]) (upd H p o) := by
  refine ⟨by rw [List.length_append, List.length_append, rs.len]; rfl, List.nodup_append.mpr ⟨rs.nd, by simp, fun a ha b hb => ?_⟩, fun n o' e => ?_⟩
  · rw [List.mem_singleton.mp hb]
    rintro rfl
    exact rs.notin hp ha
  · by_cases hn : n < s.length
    · rw [List.getElem?_append_left hn] at e
      obtain ⟨a, ea, ro'⟩ := rs.at_ n o' e
      exact ⟨a, by rw [List.getElem?_append_left (by rw [rs.len]; exact hn)]; exact ea, ro'.ext (Ext.push hp) (upd_ne fun z => rs.notin hp (by rw [← z]; exact List.mem_of_getElem? ea))⟩
    · have hn' : n = s.length := by
        have := (List.getElem?_eq_some_iff.mp e).1
        rw [List.length_append] at this
        simp at this
        omega
      subst hn'
      rw [List.getElem?_append_right (Nat.le_refl _)] at e
      simp at e
      subst e
      exact ⟨p, by rw [List.getElem?_append_right (by rw [rs.len]; exact Nat.le_refl _), rs.len]; simp, ro⟩
/-- a thing of the store is changed -/
theorem RelS.write {n : Nat} {a : Addr} {o : HO} {ob : O} (rs : RelS K w cl ι s H) (hn : ι[n]? = some a) (ro : RelO K w cl ι (upd H a o) ob a) : RelS K w cl ι (s.set n ob) (upd H a o) := by
  have hm : a ∈ ι := List.mem_of_getElem? hn
  refine ⟨by rw [List.length_set]; exact rs.len, rs.nd, fun m o' e => ?_⟩
  by_cases hmn : n = m
  · subst hmn
    have hlt : n < s.length := by rw [← rs.len]; exact (List.getElem?_eq_some_iff.mp hn).1
    rw [List.getElem?_set_self hlt] at e
    cases e
    exact ⟨a, hn, ro⟩
  · rw [List.getElem?_set_ne hmn] at e
    obtain ⟨b, eb, ro'⟩ := rs.at_ m o' e
    refine ⟨b, eb, ro'.ext (Ext.write hm) (upd_ne fun z => hmn ?_)⟩
    subst z
    obtain ⟨h1, e1⟩ := List.getElem?_eq_some_iff.mp hn
    obtain ⟨h2, e2⟩ := List.getElem?_eq_some_iff.mp eb
    exact (List.getElem_inj rs.nd).mp (e1.trans e2.symm)
end

/-! ### displays -/
def dTup (ds : List D) (s : S) : R D := if ds.length ≤ sizeLine then .ok (.tup ds) s else .bad
def dLst (ds : List D) (s : S) : R D := if ds.length ≤ sizeLine then .ok (.lst ds) s else .bad
def dNew (ds : List D) (s : S) : R D := if ds.length ≤ sizeLine then .ok (.ref s.length) (s ++ [.lst ds]) else .bad
section
variable {X : Cx} {cl : Cl} {W : Wish} {pos : Pos} {e : Expr} {es : List Expr} {m : ME} {ms : MA}
theorem sa_nil : SA X cl W [] aNil := ⟨_, pa_nil, fun σ H Q ρ ι s _ r h => h ι H [] (Ext.refl _ _) r .nil⟩
theorem sa_cons (he : SE X cl W e m) (hr : SA X cl W es ms) (hs : starEach (e :: es) X.env = (false, eval e X.env) :: starEach es X.env := by rfl) : SA X cl W (e :: es) (aCons m ms) := by
  obtain ⟨ta, pa, qa⟩ := he.ex
  obtain ⟨tr, pr, qr⟩ := hr.ex
  refine ⟨_, pa_cons pa pr hs, fun σ H Q ρ ι s en r h => ?_⟩
  refine qa σ H _ ρ ι s en r (PoA.stepE h fun d s1 ι1 H1 v e1 x1 r1 d1 h1 => ?_)
  refine qr σ H1 _ ρ ι1 s1 (en.ext x1) r1 (PoA.stepA h1 fun ds s2 ι2 H2 vs e2 x2 r2 d2 h2 => ?_)
  exact h2 ι2 H2 _ (Ext.refl _ _) r2 (.cons (d1.ext x2) d2)
theorem se_tup {x1} (h : SA X cl W es ms) : SE X cl W (.Tuple es x1 pos) (mN dTup ms) := by
  obtain ⟨ta, pa, qa⟩ := h.ex
  refine ⟨_, pe_tup pa, fun σ H Q ρ ι s en r h => ?_⟩
  refine qa σ H _ ρ ι s en r (PoE.stepA h fun ds s1 ι1 H1 vs e1 x1 r1 d1 h1 => ?_)
  unfold dTup at h1
  split at h1
  · rename_i hl
    refine ⟨by rw [← d1.length]; exact hl, fun p hp => ?_⟩
    obtain ⟨a, b, c⟩ := new_tup r1 d1 hp
    exact h1 _ _ _ a b c
  · exact False.elim h1
theorem se_lst (h : SA X cl W es ms) : SE X cl W (.List es pos) (mN dLst ms) := by
  obtain ⟨ta, pa, qa⟩ := h.ex
  refine ⟨_, pe_lst pa, fun σ H Q ρ ι s en r h => ?_⟩
  refine qa σ H _ ρ ι s en r (PoE.stepA h fun ds s1 ι1 H1 vs e1 x1 r1 d1 h1 => ?_)
  unfold dLst at h1
  split at h1
  · rename_i hl
    refine ⟨by rw [← d1.length]; exact hl, fun p hp => ?_⟩
    obtain ⟨a, b, c⟩ := new_lst r1 d1 hp
    exact h1 _ _ _ a b c
  · exact False.elim h1
theorem new_ref {K : PySem.W.Frag} {w : World} {ι : List Addr} {H : Hp} {s : S} {xs : List D} {vs : List V} {p : Addr} (rs : RelS K w cl ι s H) (r : RelDs K w cl ι H xs vs) (hp : H p = none) :
    Ext ι H (ι ++ [p]) (upd H p (.lst vs)) ∧ RelS K w cl (ι ++ [p]) (s ++ [.lst xs]) (upd H p (.lst vs)) ∧ RelD K w cl (ι ++ [p]) (upd H p (.lst vs)) (.ref s.length) (.ref p) :=
  ⟨Ext.push hp, rs.push hp ⟨vs, upd_same, r.ext (Ext.push hp)⟩, .ref (by rw [List.getElem?_append_right (by rw [rs.len]; exact Nat.le_refl _), rs.len]; simp)⟩
theorem se_new (h : SA X cl W es ms) : SE X cl W (.List es pos) (mN dNew ms) := by
  obtain ⟨ta, pa, qa⟩ := h.ex
  refine ⟨_, pe_lst pa, fun σ H Q ρ ι s en r h => ?_⟩
  refine qa σ H _ ρ ι s en r (PoE.stepA h fun ds s1 ι1 H1 vs e1 x1 r1 d1 h1 => ?_)
  unfold dNew at h1
  split at h1
  · rename_i hl
    refine ⟨by rw [← d1.length]; exact hl, fun p hp => ?_⟩
    obtain ⟨a, b, c⟩ := new_ref r1 d1 hp
    exact h1 _ _ _ a b c
  · exact False.elim h1
end
/-- [..] * k -/
def mRep (ms : MA) (mk : ME) (new : Bool) : ME := fun ρ s => (ms ρ s).bind fun ds s1 => if ds.length ≤ sizeLine then (mk ρ s1).bind fun d s2 => match d with
  | .int k => if -(2 ^ 63) ≤ k ∧ k < 2 ^ 63 ∧ ds.length * k.toNat ≤ sizeLine then
      (if new then .ok (.ref s2.length) (s2 ++ [.lst (List.replicate k.toNat ds).flatten]) else .ok (.lst (List.replicate k.toNat ds).flatten) s2) else .bad
  | _ => .bad
  else .bad
section
variable {X : Cx} {cl : Cl} {W : Wish} {pos pos2 : Pos} {e : Expr} {es : List Expr} {m : ME} {ms : MA}
theorem se_rep (new : Bool) (h : SA X cl W es ms) (hk : SE X cl W e m) : SE X cl W (.BinOp (.List es pos2) .Mult e pos) (mRep ms m new) := by
  obtain ⟨ta, pa, qa⟩ := h.ex
  obtain ⟨tb, pb, qb⟩ := hk.ex
  refine ⟨_, pe_op op_rep (pe_lst pa) pb, fun σ H Q ρ ι s en r h => ?_⟩
  refine qa σ H _ ρ ι s en r (PoE.stepA h fun ds s1 ι1 H1 vs e1 x1 r1 d1 h1 => ?_)
  by_cases hz : ds.length ≤ sizeLine
  rotate_left
  · rw [if_neg hz] at h1; exact False.elim h1
  rw [if_pos hz] at h1
  refine ⟨by rw [← d1.length]; exact hz, fun p hp => ?_⟩
  have xn : Ext ι1 H1 ι1 (upd H1 p (.lst vs)) := Ext.new hp
  have np : p ∉ ι1 := r1.notin hp
  refine qb σ _ _ ρ ι1 s1 ((en.ext x1).ext xn) (r1.laid hp) (PoE.step (PoE.mono xn h1 fun _ _ q => q) fun d s2 ι2 H2 v e2 x2 r2 d2 h2 => ?_)
  cases d2 <;> first
    | exact False.elim h2
    | skip
  rename_i k
  simp only at h2
  split at h2
  · rename_i hh
    obtain ⟨hp2, np2⟩ := x2.keep p _ upd_same np
    refine ⟨p, k, vs, rfl, rfl, hp2, hh.1, hh.2.1, by rw [← d1.length]; exact hh.2.2, fun q hq => ?_⟩
    have dd := ((d1.ext xn).ext x2).rep k.toNat
    cases new with
    | true =>
      obtain ⟨a, b, c⟩ := new_ref r2 dd hq
      exact h2 _ _ _ a b c
    | false =>
      obtain ⟨a, b, c⟩ := new_lst r2 dd hq
      exact h2 _ _ _ a b c
  · exact False.elim h2
end
/-- a finished list becomes a thing of the store: for lists that a rule has made anew -/
def mkRef (r : R D) : R D := match r with
  | .ok (.lst xs) s => .ok (.ref s.length) (s ++ [.lst xs])
  | _ => .bad

/-! ### operators -/
def iBits (i : Int) : Int := Builtin.Int.intBits i
def dAdd : D → D → S → R D
  | .int a, .int b, s => .ok (.int (a + b)) s
  | .str a, .str b, s => if a.length + b.length ≤ sizeLine then .ok (.str (a ++ b)) s else .bad
  | .tup a, .tup b, s => if a.length + b.length ≤ sizeLine then .ok (.tup (a ++ b)) s else .bad
  | .int a, .bl b, s => .ok (.int (a + if b then 1 else 0)) s
  | x, y, s => match lview s x, lview s y with
    | some a, some b => if a.length + b.length ≤ sizeLine then .ok (.lst (a ++ b)) s else .bad
    | _, _ => .bad
def dSub : D → D → S → R D
  | .int a, .int b, s => .ok (.int (a - b)) s
  | _, _, _ => .bad
def dMul : D → D → S → R D
  | .int a, .int b, s => if iBits a + iBits b ≤ 134217728 then .ok (.int (a * b)) s else .bad
  | _, _, _ => .bad
def dMod : D → D → S → R D
  | .int a, .int b, s => if 0 < b then .ok (.int (a % b)) s else .bad
  | _, _, _ => .bad
def dFdiv : D → D → S → R D
  | .int a, .int b, s => if 0 < b ∧ b.natAbs.log2 < 9000 then .ok (.int (a / b)) s else .bad
  | _, _, _ => .bad
def dPow : D → D → S → R D
  | .int a, .int b, s => if 0 ≤ b ∧ b ≤ 1000000 ∧ a.natAbs < 2 ^ 64 then .ok (.int (a ^ b.toNat)) s else .bad
  | _, _, _ => .bad
def dNeg : D → S → R D
  | .int a, s => .ok (.int (-a)) s
  | _, _ => .bad
def dLt : D → D → S → R D
  | .int a, .int b, s => .ok (.bl (decide (a < b))) s
  | _, _, _ => .bad
def dLe : D → D → S → R D
  | .int a, .int b, s => .ok (.bl (decide (a ≤ b))) s
  | _, _, _ => .bad
def dGt : D → D → S → R D
  | .int a, .int b, s => .ok (.bl (decide (b < a))) s
  | _, _, _ => .bad
def dGe : D → D → S → R D
  | .int a, .int b, s => .ok (.bl (decide (b ≤ a))) s
  | _, _, _ => .bad
section
variable {X : Cx}
/-- a + b of lists -/
theorem op_catS : OpR X (binaryOp .Add) (fun x y H Q => ∃ l b xs zs, x = .ref l ∧ y = .ref b ∧ SqL X.K H l xs ∧ SqL X.K H b zs ∧ xs.length + zs.length ≤ sizeLine ∧ ∀ p, H p = none → Q (.ref p) (upd H p (.lst (xs ++ zs)))) := by
  intro pins s σ H x y v u Q I rx ry h
  obtain ⟨l, b, xs, zs, rfl, rfl, hH, hB, hz, q⟩ := h
  cases rx
  cases ry
  obtain ⟨vs, r, ⟨⟨cls, dd, data, sl⟩, n, ho, hc, hdd, hd⟩, _⟩ := I.list hH
  obtain ⟨ws, r2, ⟨⟨cls2, dd2, data2, sl2⟩, n2, ho2, hc2, hdd2, hd2⟩, _⟩ := I.list hB
  simp only at hc hd hc2 hd2
  subst hc hd hc2 hd2
  have e : vs.toArray ++ ws.toArray = (vs ++ ws).toArray := by simp
  refine concat_meets ⟨_, ho, rfl⟩ ⟨_, ho2, rfl⟩ noFill_list_add seq_list_add PySem.F.slot_list_add PySem.F.entry_list_add (PySem.F.args_list_add_2 _ _) (list_addW l b vs.toArray ws.toArray n n2 dd dd2 sl sl2 (by
    have h1 := r.length
    have h2 := r2.length
    simp only [List.size_toArray]
    omega)) ⟨ho, ho2, ?_⟩
  rw [e]
  exact ⟨.ref _, _, I.lnew (t' := s.toks) (r.append r2) (by rw [List.length_append]; omega), rfl, q _ I.fresh⟩
end
section
variable {X : Cx} {cl : Cl}
theorem d_add : OpD X cl (binaryOp .Add) dAdd := by
  intro W ι H σ Q s dx dy x y rs rx ry h
  unfold dAdd at h
  split at h
  · cases rx; cases ry
    exact ⟨_, op_add, _, _, rfl, rfl, h ι H _ (Ext.refl _ _) rs (.int _)⟩
  · cases rx; cases ry
    split at h
    · exact ⟨_, op_add_str, _, _, rfl, rfl, by assumption, h ι H _ (Ext.refl _ _) rs (.str _)⟩
    · exact False.elim h
  · cases rx with
    | tup h1 r1 =>
    cases ry with
    | tup h2 r2 =>
    split at h
    · rename_i a b _ hl
      refine ⟨_, op_catA, _, _, _, _, rfl, rfl, h1.sq, h2.sq, by rw [← r1.length, ← r2.length]; exact hl, fun e => ?_, fun e1 e2 => ?_, fun e1 e2 p hp => ?_⟩
      · subst e
        cases r1
        exact h ι H _ (Ext.refl _ _) rs (.tup h2 r2)
      · subst e2
        cases r2
        exact h ι H _ (Ext.refl _ _) rs (.tup h1 (by rw [List.append_nil]; exact r1))
      · obtain ⟨a, b, c⟩ := new_tup rs (r1.append r2) hp
        exact h _ _ _ a b c
    · exact False.elim h
  · cases rx; cases ry
    rename_i a b
    refine ⟨_, op_add_ib, _, _, rfl, rfl, ?_⟩
    have := h ι H _ (Ext.refl _ _) rs (.int _)
    cases b <;> exact this
  · split at h
    · rename_i a b ea eb
      split at h
      · rename_i hl
        obtain ⟨p1, vs1, rfl, q1, r1⟩ := lview_at rs rx ea
        obtain ⟨p2, vs2, rfl, q2, r2⟩ := lview_at rs ry eb
        refine ⟨_, op_catS, _, _, _, _, rfl, rfl, q1, q2, by rw [← r1.length, ← r2.length]; exact hl, fun p hp => ?_⟩
        obtain ⟨a, b, c⟩ := new_lst rs (r1.append r2) hp
        exact h _ _ _ a b c
      · exact False.elim h
    · exact False.elim h
theorem d_sub : OpD X cl (binaryOp .Sub) dSub := by
  intro W ι H σ Q s dx dy x y rs rx ry h
  unfold dSub at h
  split at h
  · cases rx; cases ry
    exact ⟨_, op_sub, _, _, rfl, rfl, h ι H _ (Ext.refl _ _) rs (.int _)⟩
  · exact False.elim h
theorem d_mul : OpD X cl (binaryOp .Mult) dMul := by
  intro W ι H σ Q s dx dy x y rs rx ry h
  unfold dMul at h
  split at h
  · cases rx; cases ry
    split at h
    · exact ⟨_, op_mulX, _, _, rfl, rfl, by assumption, h ι H _ (Ext.refl _ _) rs (.int _)⟩
    · exact False.elim h
  · exact False.elim h
theorem d_mod : OpD X cl (binaryOp .Mod) dMod := by
  intro W ι H σ Q s dx dy x y rs rx ry h
  unfold dMod at h
  split at h
  · cases rx; cases ry
    split at h
    · exact ⟨_, op_mod, _, _, rfl, rfl, by assumption, h ι H _ (Ext.refl _ _) rs (.int _)⟩
    · exact False.elim h
  · exact False.elim h
theorem d_fdiv : OpD X cl (binaryOp .FloorDiv) dFdiv := by
  intro W ι H σ Q s dx dy x y rs rx ry h
  unfold dFdiv at h
  split at h
  · cases rx; cases ry
    split at h
    · exact ⟨_, op_fdivW, _, _, rfl, rfl, by assumption, h ι H _ (Ext.refl _ _) rs (.int _)⟩
    · exact False.elim h
  · exact False.elim h
theorem d_pow : OpD X cl (binaryOp .Pow) dPow := by
  intro W ι H σ Q s dx dy x y rs rx ry h
  unfold dPow at h
  split at h
  · cases rx; cases ry
    split at h
    · exact ⟨_, op_pow, _, _, rfl, rfl, by assumption, h ι H _ (Ext.refl _ _) rs (.int _)⟩
    · exact False.elim h
  · exact False.elim h
theorem d_neg : UnD X cl (unaryOp .USub) dNeg := by
  intro W ι H σ Q s dx x rs rx h
  unfold dNeg at h
  split at h
  · cases rx
    exact ⟨_, un_neg, _, rfl, h ι H _ (Ext.refl _ _) rs (.int _)⟩
  · exact False.elim h
theorem d_lt : OpD X cl (compareOp .Lt) dLt := by
  intro W ι H σ Q s dx dy x y rs rx ry h
  unfold dLt at h
  split at h
  · cases rx; cases ry
    exact ⟨_, op_lt, _, _, rfl, rfl, h ι H _ (Ext.refl _ _) rs (.bl _)⟩
  · exact False.elim h
theorem d_le : OpD X cl (compareOp .LtE) dLe := by
  intro W ι H σ Q s dx dy x y rs rx ry h
  unfold dLe at h
  split at h
  · cases rx; cases ry
    exact ⟨_, op_le, _, _, rfl, rfl, h ι H _ (Ext.refl _ _) rs (.bl _)⟩
  · exact False.elim h
theorem d_gt : OpD X cl (compareOp .Gt) dGt := by
  intro W ι H σ Q s dx dy x y rs rx ry h
  unfold dGt at h
  split at h
  · cases rx; cases ry
    exact ⟨_, op_gt, _, _, rfl, rfl, h ι H _ (Ext.refl _ _) rs (.bl _)⟩
  · exact False.elim h
theorem d_ge : OpD X cl (compareOp .GtE) dGe := by
  intro W ι H σ Q s dx dy x y rs rx ry h
  unfold dGe at h
  split at h
  · cases rx; cases ry
    exact ⟨_, op_ge, _, _, rfl, rfl, h ι H _ (Ext.refl _ _) rs (.bl _)⟩
  · exact False.elim h
end
end Pm
namespace Pm
open PySem PySem.Spec PyProof.Rows L2

/-! ### equality of data -/
def optAll (f : D → Option PyData) : List D → Option (List PyData)
  | [] => some []
  | x :: xs => match f x, optAll f xs with
    | some p, some ps => some (p :: ps)
    | _, _ => none
def toPy (s : S) : Nat → D → Option PyData
  | 0, _ => none
  | _ + 1, .non => some .none
  | _ + 1, .bl b => some (.bool b)
  | _ + 1, .int i => some (.int i)
  | _ + 1, .str x => if PySem.PyData.strOk x = true then some (.str x) else none
  | k + 1, .tup xs => (optAll (toPy s k) xs).map .tuple
  | k + 1, .lst xs => (optAll (toPy s k) xs).map .list
  | k + 1, .ref n => match s[n]? with
    | some (.lst xs) => (optAll (toPy s k) xs).map .list
    | _ => none
  | _ + 1, _ => none
def dEq : D → D → S → R D := fun x y s => match toPy s 60 x, toPy s 60 y with
  | some p, some q => .ok (.bl (PyData.eqv p q)) s
  | _, _ => .bad
def dNe : D → D → S → R D := fun x y s => match toPy s 60 x, toPy s 60 y with
  | some p, some q => .ok (.bl (!PyData.eqv p q)) s
  | _, _ => .bad
section
variable {X : Cx} {cl : Cl} {K : PySem.W.Frag} {w : World} {ι : List Addr} {H : Hp} {s : S}
theorem optAll_dp {f : D → Option PyData} (hf : ∀ d p v, f d = some p → RelD K w cl ι H d v → Dp K H v p) : ∀ {xs : List D} {ps : List PyData} {vs : List V}, optAll f xs = some ps → RelDs K w cl ι H xs vs → DpAll K H vs ps
  | [], ps, _, e, .nil => by cases e; exact .nil
  | x :: xs, ps, _, e, .cons r t => by
    simp only [optAll] at e
    split at e
    · rename_i p qs e1 e2
      cases e
      exact .cons (hf _ _ _ e1 r) (optAll_dp hf e2 t)
    · cases e
theorem toPy_dp (rs : RelS K w cl ι s H) : ∀ (k : Nat) (d : D) (p : PyData) (v : V), toPy s k d = some p → RelD K w cl ι H d v → Dp K H v p
  | 0, d, p, v, e, r => by cases e
  | k + 1, d, p, v, e, r => by
    have ih := toPy_dp rs k
    cases r <;> simp only [toPy] at e
    · cases e; exact .non
    · cases e; exact .bl _
    · cases e; exact .int _
    · split at e
      · cases e; exact .str _
      · cases e
    · rename_i h1 r1
      obtain ⟨ps, e1, rfl⟩ := Option.map_eq_some_iff.mp e
      exact .tup h1.sq (optAll_dp ih e1 r1)
    · rename_i h1 r1
      obtain ⟨ps, e1, rfl⟩ := Option.map_eq_some_iff.mp e
      exact .lst h1.sq (optAll_dp ih e1 r1)
    · rename_i n a h1
      split at e
      · rename_i xs e2
        obtain ⟨ps, e1, rfl⟩ := Option.map_eq_some_iff.mp e
        obtain ⟨a', ea, vs, ha, r1⟩ := rs.at_ n _ e2
        rw [h1] at ea
        cases ea
        exact .lst (SqL.of ha) (optAll_dp ih e1 r1)
      · cases e
    all_goals cases e
theorem optAll_lay {f : D → Option PyData} {k : Nat} (hf : ∀ d p, f d = some p → p.canLay0 = true ∧ p.depth ≤ k) : ∀ {xs : List D} {ps : List PyData}, optAll f xs = some ps → PyData.canLayAll0 ps = true ∧ PyData.depthAll ps ≤ k
  | [], ps, e => by cases e; exact ⟨rfl, by simp [PyData.depthAll]⟩
  | x :: xs, ps, e => by
    simp only [optAll] at e
    split at e
    · rename_i p qs e1 e2
      cases e
      obtain ⟨h1, h2⟩ := hf _ _ e1
      obtain ⟨h3, h4⟩ := optAll_lay hf e2
      refine ⟨by simp [PyData.canLayAll0, h1, h3], ?_⟩
      simp only [PyData.depthAll]
      omega
    · cases e
theorem toPy_lay : ∀ (k : Nat) (d : D) (p : PyData), toPy s k d = some p → p.canLay0 = true ∧ p.depth ≤ k
  | 0, d, p, e => by cases e
  | k + 1, d, p, e => by
    have ih := toPy_lay k
    cases d <;> simp only [toPy] at e
    · cases e; exact ⟨rfl, by simp [PyData.depth]⟩
    · cases e; exact ⟨rfl, by simp [PyData.depth]⟩
    · cases e; exact ⟨rfl, by simp [PyData.depth]⟩
    · split at e
      · rename_i h1; cases e; exact ⟨h1, by simp [PyData.depth]⟩
      · cases e
    · obtain ⟨ps, e1, rfl⟩ := Option.map_eq_some_iff.mp e
      obtain ⟨h1, h2⟩ := optAll_lay ih e1
      exact ⟨h1, by simp only [PyData.depth]; omega⟩
    · obtain ⟨ps, e1, rfl⟩ := Option.map_eq_some_iff.mp e
      obtain ⟨h1, h2⟩ := optAll_lay ih e1
      exact ⟨h1, by simp only [PyData.depth]; omega⟩
    · split at e
      · obtain ⟨ps, e1, rfl⟩ := Option.map_eq_some_iff.mp e
        obtain ⟨h1, h2⟩ := optAll_lay ih e1
        exact ⟨h1, by simp only [PyData.depth]; omega⟩
      · cases e
    all_goals cases e
theorem toPy_shaped {d : D} {p : PyData} (e : toPy s 60 d = some p) : SeqAt.shaped p = true := by
  obtain ⟨h1, h2⟩ := toPy_lay _ _ _ e
  unfold SeqAt.shaped
  rw [h1, Bool.true_and]
  exact decide_eq_true (by omega)
theorem d_eq (hu : X.A.units + 64 < cLine) : OpD X cl (compareOp .Eq) dEq := by
  intro W ι H σ Q s dx dy x y rs rx ry h
  unfold dEq at h
  split at h
  · rename_i p q e1 e2
    exact ⟨_, op_eqD hu, p, q, toPy_dp rs _ _ _ _ e1 rx, toPy_dp rs _ _ _ _ e2 ry, toPy_shaped e1, toPy_shaped e2, h ι H _ (Ext.refl _ _) rs (.bl _)⟩
  · exact False.elim h
theorem d_ne (hu : X.A.units + 64 < cLine) : OpD X cl (compareOp .NotEq) dNe := by
  intro W ι H σ Q s dx dy x y rs rx ry h
  unfold dNe at h
  split at h
  · rename_i p q e1 e2
    exact ⟨_, op_neD hu, p, q, toPy_dp rs _ _ _ _ e1 rx, toPy_dp rs _ _ _ _ e2 ry, toPy_shaped e1, toPy_shaped e2, h ι H _ (Ext.refl _ _) rs (.bl _)⟩
  · exact False.elim h

/-! ### is -/
def isNonD : D → Bool
  | .non => true
  | _ => false
def dIs : D → D → S → R D
  | x, .non, s => .ok (.bl (isNonD x)) s
  | .bl a, .bl b, s => .ok (.bl (decide (a = b))) s
  | .non, .bl _, s => .ok (.bl false) s
  | _, _, _ => .bad
def dIsNot : D → D → S → R D
  | x, .non, s => .ok (.bl (!isNonD x)) s
  | .bl a, .bl b, s => .ok (.bl (!decide (a = b))) s
  | .non, .bl _, s => .ok (.bl true) s
  | _, _, _ => .bad
theorem isNonD_ok {d : D} {v : V} (r : RelD K w cl ι H d v) : decide (v = V.non) = isNonD d := by
  cases r <;> rfl
theorem op_isNB : OpR X (compareOp .Is) (fun x y H Q => ∃ b, x = .non ∧ y = .bl b ∧ Q (.bl false) H) := by
  intro pins s σ H x y v u Q I rx ry h
  obtain ⟨b, rfl, rfl, q⟩ := h
  cases (show v = Value.none from rx)
  cases (show u = Value.bool b from ry)
  exact wpAny_is_other rfl (fun z => nomatch z) ⟨.bl false, H, I, rfl, q⟩
theorem op_notNB : OpR X (compareOp .IsNot) (fun x y H Q => ∃ b, x = .non ∧ y = .bl b ∧ Q (.bl true) H) := by
  intro pins s σ H x y v u Q I rx ry h
  obtain ⟨b, rfl, rfl, q⟩ := h
  cases (show v = Value.none from rx)
  cases (show u = Value.bool b from ry)
  exact wpAny_isNot_other rfl (fun z => nomatch z) ⟨.bl true, H, I, rfl, q⟩
theorem d_is : OpD X cl (compareOp .Is) dIs := by
  intro W ι H σ Q s dx dy x y rs rx ry h
  unfold dIs at h
  split at h
  · cases ry
    exact ⟨_, op_isN, rfl, by rw [isNonD_ok rx]; exact h ι H _ (Ext.refl _ _) rs (.bl _)⟩
  · cases rx; cases ry
    exact ⟨_, op_isBl, _, _, rfl, rfl, h ι H _ (Ext.refl _ _) rs (.bl _)⟩
  · cases rx; cases ry
    exact ⟨_, op_isNB, _, rfl, rfl, h ι H _ (Ext.refl _ _) rs (.bl _)⟩
  · exact False.elim h
theorem d_isnot : OpD X cl (compareOp .IsNot) dIsNot := by
  intro W ι H σ Q s dx dy x y rs rx ry h
  unfold dIsNot at h
  split at h
  · cases ry
    exact ⟨_, op_notN, rfl, by rw [isNonD_ok rx]; exact h ι H _ (Ext.refl _ _) rs (.bl _)⟩
  · cases rx; cases ry
    exact ⟨_, op_notBl, _, _, rfl, rfl, h ι H _ (Ext.refl _ _) rs (.bl _)⟩
  · cases rx; cases ry
    exact ⟨_, op_notNB, _, rfl, rfl, h ι H _ (Ext.refl _ _) rs (.bl _)⟩
  · exact False.elim h

/-! ### in -/
def strIn (i j : Str) : Bool := !(Builtin.Str.occurrences j i 0 j.length 1).isEmpty
/-- scalars -/
def flatD : D → Bool
  | .non => true
  | .bl _ => true
  | .int _ => true
  | .str _ => true
  | _ => false
/-- == of scalars -/
def sEq : D → D → Bool
  | .non, .non => true
  | .bl a, .bl b => a == b
  | .bl a, .int b => (if a then 1 else 0) == b
  | .int a, .bl b => a == (if b then 1 else 0)
  | .int a, .int b => a == b
  | .str a, .str b => a == b
  | _, _ => false
def dMem (x : D) (y : D) (s : S) : Option Bool := match x, y with
  | .str i, .str j => some (strIn i j)
  | .str i, .dic kvs => some (kvs.lookup i).isSome
  | x, .tup ys => if flatD x && ys.all flatD then some (ys.any fun z => sEq z x) else none
  | x, y => match lview s y with
    | some ys => if flatD x && ys.all flatD then some (ys.any fun z => sEq z x) else
        match toPy s 60 x, optAll (toPy s 59) ys with
        | some p, some ps => some (ps.any fun z => PyData.eqv z p)
        | _, _ => none
    | none => none
def dIn (x y : D) (s : S) : R D := match dMem x y s with
  | some b => .ok (.bl b) s
  | none => .bad
def dNotIn (x y : D) (s : S) : R D := match dMem x y s with
  | some b => .ok (.bl (!b)) s
  | none => .bad
theorem flat_V {d : D} {v : V} (r : RelD K w cl ι H d v) (f : flatD d = true) : flatV v = true := by
  cases r <;> first
    | rfl
    | cases f
theorem sEq_V {d e : D} {v u : V} (r : RelD K w cl ι H d v) (q : RelD K w cl ι H e u) (f : flatD d = true) (g : flatD e = true) : eqV v u = sEq d e := by
  cases r <;> cases q <;> first
    | rfl
    | cases f
    | cases g
theorem flats_V : ∀ {ds : List D} {vs : List V}, RelDs K w cl ι H ds vs → ds.all flatD = true → vs.all flatV = true
  | _, _, .nil, _ => rfl
  | _, _, .cons r t, f => by
    rw [List.all_cons, Bool.and_eq_true] at f
    rw [List.all_cons, flat_V r f.1, flats_V t f.2]
    rfl
theorem inV_ok {d : D} {v : V} (r : RelD K w cl ι H d v) (f : flatD d = true) : ∀ {ds : List D} {vs : List V}, RelDs K w cl ι H ds vs → ds.all flatD = true → inV v vs = ds.any fun z => sEq z d
  | _, _, .nil, _ => rfl
  | _, _, .cons q t, g => by
    rw [List.all_cons, Bool.and_eq_true] at g
    have ih := inV_ok r f t g.2
    unfold inV at ih ⊢
    rw [List.any_cons, List.any_cons, ih, sEq_V q r g.1 f]
theorem kdx_lookup {kvs : List (Str × D)} {vs : List (Str × V)} (r : RelFs K w cl ι H kvs vs) (z : Str) : match kvs.lookup z with
    | some d => ∃ v, vs.lookup z = some v ∧ RelD K w cl ι H d v
    | none => vs.lookup z = none := by
  induction kvs generalizing vs with
  | nil => cases r; rfl
  | cons p t ih =>
    cases r with
    | @cons f d v ds us r1 t1 =>
      have := ih t1
      rw [List.lookup_cons, List.lookup_cons]
      by_cases e : z == f
      · simp only [e]
        exact ⟨v, rfl, r1⟩
      · simp only [Bool.eq_false_iff.mpr e]
        exact this
theorem paired_lookup : ∀ {vs : List (Str × V)} {us : List (Str × Value)}, Paired (fun (p : Str × V) (q : Str × Value) => p.1 = q.1 ∧ RelV p.2 q.2) vs us → ∀ z : Str, match vs.lookup z with
    | some v => ∃ u, us.lookup z = some u ∧ RelV v u
    | none => us.lookup z = none
  | _, _, .nil, z => rfl
  | (f, v) :: vs, (g, u) :: us, .cons ⟨e1, r⟩ t, z => by
    have ih := paired_lookup t z
    simp only at e1 r
    subst e1
    rw [List.lookup_cons, List.lookup_cons]
    by_cases e : z == f
    · simp only [e]
      exact ⟨u, rfl, r⟩
    · simp only [Bool.eq_false_iff.mpr e]
      exact ih
theorem in_gen {op : CmpOp} {neg : Bool} (h1 : OpR X (compareOp op) (rIn X.K neg)) (h2 : OpR X (compareOp op) (fun x y H Q => ∃ i j, x = .str i ∧ y = .str j ∧ Q (.bl (if neg then !strIn i j else strIn i j)) H))
    (h3 : ∀ {d : Addr} {es : Array DictEntry} {n : Nat}, KDict X.K X.w d es n → OpR X (compareOp op) (fun x y H Q => ∃ (z : Str) (r : Option Value), x = .str z ∧ y = .ref d ∧ PySem.W.nsIn X.K d z = some r ∧ Q (.bl (if neg then !r.isSome else r.isSome)) H))
    (h4 : OpR X (compareOp op) (fun x y H Q => ∃ d ds, Dp X.K H x d ∧ Dp X.K H y (.list ds) ∧ SeqAt.shaped d = true ∧ SeqAt.shaped (.list ds) = true ∧ Q (.bl (if neg then !ds.any (fun z => PyData.eqv z d) else ds.any fun z => PyData.eqv z d)) H))
    {W : Wish} {σ : L2.St} {Q : VK} {s : S} {ι : List Addr} {H : Hp} {dx dy : D} {x y : V} {b : Bool} (rs : RelS X.K X.w cl ι s H) (rx : RelD X.K X.w cl ι H dx x) (ry : RelD X.K X.w cl ι H dy y) (e : dMem dx dy s = some b)
    (q : Q (.bl (if neg then !b else b)) H) : AnyOp X (compareOp op) x y H Q := by
  unfold dMem at e
  split at e
  · cases rx; cases ry
    cases e
    exact ⟨_, h2, _, _, rfl, rfl, q⟩
  · rename_i i kvs
    cases rx
    cases ry with
    | @dic kvs a vs hk r =>
    obtain ⟨es, n, us, k1, k2, k3, k4, k5⟩ := hk
    have kl := kdx_lookup r i
    have pl := paired_lookup k5 i
    refine ⟨_, h3 ⟨k1, k2, k3⟩, i, _, rfl, rfl, k4 i, ?_⟩
    have eb : (us.lookup i).isSome = b := by
      cases e
      cases e1 : kvs.lookup i with
      | none => rw [e1] at kl; simp only at kl; rw [kl] at pl; simp only at pl; rw [pl]; rfl
      | some d => rw [e1] at kl; obtain ⟨v, e2, _⟩ := kl; rw [e2] at pl; obtain ⟨u, e3, _⟩ := pl; rw [e3]; rfl
    rw [eb]
    exact q
  · rename_i ys
    split at e
    · rename_i f
      rw [Bool.and_eq_true] at f
      cases e
      cases ry with
      | tup h5 r5 =>
      exact ⟨_, h1, _, _, rfl, .inr h5.sq, flat_V rx f.1, flats_V r5 f.2, by rw [inV_ok rx f.1 r5 f.2]; exact q⟩
    · cases e
  · split at e
    · rename_i ys e5
      obtain ⟨a, vs, rfl, hl, r5⟩ := lview_at rs ry e5
      split at e
      · rename_i f
        rw [Bool.and_eq_true] at f
        cases e
        exact ⟨_, h1, _, _, rfl, .inl hl.sq, flat_V rx f.1, flats_V r5 f.2, by rw [inV_ok rx f.1 r5 f.2]; exact q⟩
      · split at e
        · rename_i p ps e6 e7
          cases e
          refine ⟨_, h4, p, ps, toPy_dp rs _ _ _ _ e6 rx, .lst hl.sq (optAll_dp (toPy_dp rs 59) e7 r5), toPy_shaped e6, ?_, q⟩
          obtain ⟨g1, g2⟩ := optAll_lay (k := 59) (toPy_lay 59) e7
          unfold SeqAt.shaped
          rw [show (PyData.list ps).canLay0 = true from g1, Bool.true_and]
          exact decide_eq_true (by simp only [PyData.depth]; omega)
        · cases e
    · cases e
theorem d_in (hu : X.A.units + 65 < cLine) : OpD X cl (compareOp .In) dIn := by
  intro W ι H σ Q s dx dy x y rs rx ry h
  unfold dIn at h
  split at h
  · rename_i b e
    exact in_gen (neg := false) (W := W) (σ := σ) op_in_seq op_in_str (fun D => op_in_kd D) (op_inD hu) rs rx ry e (h ι H _ (Ext.refl _ _) rs (.bl _))
  · exact False.elim h
theorem d_notin (hu : X.A.units + 65 < cLine) : OpD X cl (compareOp .NotIn) dNotIn := by
  intro W ι H σ Q s dx dy x y rs rx ry h
  unfold dNotIn at h
  split at h
  · rename_i b e
    exact in_gen (neg := true) (W := W) (σ := σ) op_notIn_seq L2.op_notIn_str (fun D => op_notIn_kd D) (op_notInD hu) rs rx ry e (h ι H _ (Ext.refl _ _) rs (.bl _))
  · exact False.elim h

/-! ### places -/
def dIx : D → D → S → R D
  | .str z, .int i, s => if z.length ≤ sizeLine then (match atI z.cps.toList i with
    | some c => .ok (.str ⟨#[c]⟩) s
    | none => .bad) else .bad
  | .tup xs, .int i, s => (match atI xs i with
    | some d => .ok d s
    | none => .bad)
  | .dic kvs, .str z, s => (match kvs.lookup z with
    | some d => .ok d s
    | none => .bad)
  | x, .int i, s => (match lview s x with
    | some xs => (match atI xs i with
      | some d => .ok d s
      | none => .bad)
    | none => .bad)
  | _, _, _ => .bad
theorem atI_rel {xs : List D} {vs : List V} {i : Int} {d : D} (r : RelDs K w cl ι H xs vs) (e : atI xs i = some d) : ∃ v, atI vs i = some v ∧ RelD K w cl ι H d v := by
  unfold atI at e ⊢
  rw [← r.length]
  cases h : ixN xs.length i with
  | none => rw [h] at e; cases e
  | some j => rw [h] at e; exact r.get e
theorem d_ix : IxD X cl dIx := by
  intro W ι H σ Q s dx dy x y rs rx ry h
  unfold dIx at h
  split at h
  · cases rx; cases ry
    split at h
    · split at h
      · exact ⟨_, ix_str, _, _, _, rfl, rfl, by assumption, by assumption, h ι H _ (Ext.refl _ _) rs (.str _)⟩
      · exact False.elim h
    · exact False.elim h
  · cases ry
    cases rx with
    | tup h1 r1 =>
    split at h
    · rename_i d e
      obtain ⟨v, e1, rd⟩ := atI_rel r1 e
      exact ⟨_, ix_tup, _, _, _, _, rfl, rfl, h1.sq, e1, h ι H _ (Ext.refl _ _) rs rd⟩
    · exact False.elim h
  · cases ry
    rename_i kvs z
    cases rx with
    | @dic kvs a vs hk r =>
    split at h
    · rename_i d e
      obtain ⟨es, n, us, k1, k2, k3, k4, k5⟩ := hk
      have kl := kdx_lookup r z
      have pl := paired_lookup k5 z
      rw [e] at kl
      obtain ⟨v, e2, rd⟩ := kl
      rw [e2] at pl
      obtain ⟨u, e3, rv⟩ := pl
      exact ⟨_, ix_kdict, a, z, v, rfl, rfl, ⟨es, n, u, k1, k2, by rw [k4, e3], rv⟩, h ι H _ (Ext.refl _ _) rs rd⟩
    · exact False.elim h
  · cases ry
    split at h
    · rename_i xs e5
      obtain ⟨a, vs, rfl, hl, r5⟩ := lview_at rs rx e5
      split at h
      · rename_i d e
        obtain ⟨v, e1, rd⟩ := atI_rel r5 e
        exact ⟨_, ix_list, _, _, _, _, rfl, rfl, hl.sq, e1, h ι H _ (Ext.refl _ _) rs rd⟩
      · exact False.elim h
    · exact False.elim h
  · exact False.elim h
variable {W : Wish} {a b c : Expr} {ma mb mc : ME} {pos : Pos}
theorem se_ix (ha : SE X cl W a ma) (hb : SE X cl W b mb) (hs : PlainIx b := by exact fun _ _ => rfl) : SE X cl W (.Subscript a b pos) (m2 dIx ma mb) := by
  obtain ⟨ta, pa, qa⟩ := ha.ex
  obtain ⟨tb, pb, qb⟩ := hb.ex
  refine ⟨_, pe_ix anyIx pa pb hs, fun σ H Q ρ ι s e r h => ?_⟩
  refine qa σ H _ ρ ι s e r (PoE.step h fun d s1 ι1 H1 v e1 x1 r1 d1 h1 => ?_)
  refine qb σ H1 _ ρ ι1 s1 (e.ext x1) r1 (PoE.step h1 fun d2 s2 ι2 H2 v2 e2 x2 r2 dd2 h2 => ?_)
  exact d_ix W ι2 H2 σ Q s2 d d2 v v2 r2 (d1.ext x2) dd2 h2
/-- slices -/
def dCut (xs : List D) (lo hi : Option Int) : List D := (xs.drop (HT.sIx xs.length 0 lo)).take (HT.sIx xs.length xs.length hi - HT.sIx xs.length 0 lo)
def dSl (lo hi : Option Int) : D → S → R D
  | .str z, s => if z.length ≤ sizeLine then .ok (.str (Txt.slice z lo hi)) s else .bad
  | .tup xs, s => .ok (.tup (dCut xs lo hi)) s
  | x, s => match lview s x with
    | some xs => .ok (.lst (dCut xs lo hi)) s
    | none => .bad
theorem dCut_rel {xs : List D} {vs : List V} {lo hi : Option Int} (r : RelDs K w cl ι H xs vs) : RelDs K w cl ι H (dCut xs lo hi) (cutV vs lo hi) := by
  unfold dCut cutV
  rw [r.length]
  exact (r.drop _).take _
/-- an optional bound: nothing, or an int -/
def oNone : Rho → S → R (Option Int) := fun _ s => .ok none s
def oSome (m : ME) : Rho → S → R (Option Int) := fun ρ s => (m ρ s).bind fun d s1 => match d with
  | .int i => .ok (some i) s1
  | _ => .bad
def mSl (m : ME) (lo hi : Rho → S → R (Option Int)) : ME := fun ρ s => (m ρ s).bind fun d s1 => (lo ρ s1).bind fun l s2 => (hi ρ s2).bind fun h s3 => dSl l h d s3
structure SO (X : Cx) (cl : Cl) (W : Wish) (e : Option Expr) (m : Rho → S → R (Option Int)) : Prop where
  ex : ∃ t, PO X e t ∧ ∀ (σ : L2.St) (H : Hp) (Q : Option Int → Hp → Prop) ρ ι s, RelE X.K X.w cl ι H ρ σ → RelS X.K X.w cl ι s H →
    (match m ρ s with
      | .ok o s1 => ∀ ι' H', Ext ι H ι' H' → RelS X.K X.w cl ι' s1 H' → Q o H'
      | .exc x s1 => ∀ ι' H' c d, Ext ι H ι' H' → RelS X.K X.w cl ι' s1 H' → RelX X.K X.w cl ι' H' x c d → W c d σ H'
      | .bad => False) → t σ H Q
theorem so_none : SO X cl W none oNone := ⟨_, po_none, fun σ H Q ρ ι s _ r h => h ι H (Ext.refl _ _) r⟩
theorem so_some (ha : SE X cl W a ma) : SO X cl W (some a) (oSome ma) := by
  obtain ⟨ta, pa, qa⟩ := ha.ex
  refine ⟨_, po_some pa, fun σ H Q ρ ι s e r h => ?_⟩
  unfold oSome at h
  refine qa σ H _ ρ ι s e r ?_
  cases e1 : ma ρ s with
  | ok d s1 =>
    rw [e1] at h
    intro ι1 H1 v x1 r1 rd
    simp only [R.bind] at h
    cases rd <;> first
      | exact ⟨_, rfl, h ι1 H1 x1 r1⟩
      | exact False.elim h
  | exc d s1 => rw [e1] at h; exact h
  | bad => rw [e1] at h; exact h
theorem se_slice {p2 : Pos} {lo hi : Option Expr} {ml mh : Rho → S → R (Option Int)} (ha : SE X cl W a ma) (hl : SO X cl W lo ml) (hh : SO X cl W hi mh) : SE X cl W (.Subscript a (.Slice lo hi none p2) pos) (mSl ma ml mh) := by
  obtain ⟨ta, pa, qa⟩ := ha.ex
  obtain ⟨tl, pl, ql⟩ := hl.ex
  obtain ⟨th, ph, qh⟩ := hh.ex
  refine ⟨_, pe_slice (SlR.or sl_tupA (SlR.or sl_list C8.sl_txt)) pa pl ph, fun σ H Q ρ ι s e r h => ?_⟩
  refine qa σ H _ ρ ι s e r (PoE.step h fun d s1 ι1 H1 v e1 x1 r1 d1 h1 => ?_)
  refine ql σ H1 _ ρ ι1 s1 (e.ext x1) r1 ?_
  cases e2 : ml ρ s1 with
  | exc dd ss => rw [e2] at h1; exact h1
  | bad => rw [e2] at h1; exact h1
  | ok l s2 =>
  rw [e2] at h1
  intro ι2 H2 x2 r2
  have h2 : PoE X.K X.w cl W ι2 H2 σ Q ((mh ρ s2).bind fun h s3 => dSl l h d s3) := PoE.mono x2 h1 fun _ _ q => q
  refine qh σ H2 _ ρ ι2 s2 ((e.ext x1).ext x2) r2 ?_
  cases e3 : mh ρ s2 with
  | exc dd ss => rw [e3] at h2; exact h2
  | bad => rw [e3] at h2; exact h2
  | ok u s3 =>
  rw [e3] at h2
  intro ι3 H3 x3 r3
  have h3 : PoE X.K X.w cl W ι3 H3 σ Q (dSl l u d s3) := PoE.mono x3 h2 fun _ _ q => q
  have d3 := (d1.ext x2).ext x3
  unfold dSl at h3
  split at h3
  · cases d3
    split at h3
    · exact .inr (.inr ⟨_, rfl, by assumption, h3 ι3 H3 _ (Ext.refl _ _) r3 (.str _)⟩)
    · exact False.elim h3
  · rename_i ds
    cases d3 with
    | tup ht rt =>
    refine .inl ⟨_, _, rfl, ht.sq, fun z => ?_, fun z p hp => ?_⟩
    · refine h3 ι3 H3 _ (Ext.refl _ _) r3 (.tup ht ?_)
      have e4 : dCut ds l u = ds := by
        unfold dCut
        have hz := rt.length
        rw [hz, z.1, z.2, ← hz]
        simp
      rw [e4]
      exact rt
    · obtain ⟨a, b, c⟩ := new_tup r3 (dCut_rel (lo := l) (hi := u) rt) hp
      exact h3 _ _ _ a b c
  · split at h3
    · rename_i xs e5
      obtain ⟨aa, vs, rfl, hl', r5⟩ := lview_at r3 d3 e5
      refine .inr (.inl ⟨_, _, rfl, hl'.sq, fun p hp => ?_⟩)
      obtain ⟨a, b, c⟩ := new_lst r3 (dCut_rel (lo := l) (hi := u) r5) hp
      exact h3 _ _ _ a b c
    · exact False.elim h3
end
end Pm
namespace Pm
open PySem PySem.Spec PyProof.Rows L2

/-! ### statements -/
def ssNil : MS := fun ρ s => .ok (.nx ρ) s
def ssCons (a b : MS) : MS := fun ρ s => (a ρ s).andThen b
def sSet (i : Nat) (m : ME) : MS := fun ρ s => (m ρ s).st ρ fun d s1 => .ok (.nx (ρ.set i (some d))) s1
def sExpr (m : ME) : MS := fun ρ s => (m ρ s).st ρ fun _ s1 => .ok (.nx ρ) s1
def sRet (m : ME) : MS := fun ρ s => (m ρ s).st ρ fun d s1 => .ok (.rt d) s1
def sRetN : MS := fun _ s => .ok (.rt .non) s
def sIf (c : MT) (a b : MS) : MS := fun ρ s => (c ρ s).st ρ fun k s1 => if k = true then a ρ s1 else b ρ s1
def sPass : MS := fun ρ s => .ok (.nx ρ) s
def sBreak : MS := fun ρ s => .ok (.bk ρ) s
def sCont : MS := fun ρ s => .ok (.ct ρ) s
def sNever : MS := fun _ _ => .bad
/-- a target: a name, a tuple of targets, a place -/
abbrev MG := D → Rho → S → R Rho
def gSlot (i : Nat) : MG := fun d ρ s => .ok (ρ.set i (some d)) s
abbrev MGs := List D → Rho → S → R Rho
def gsNil : MGs := fun ds ρ s => match ds with
  | [] => .ok ρ s
  | _ => .bad
def gsCons (g : MG) (r : MGs) : MGs := fun ds ρ s => match ds with
  | d :: t => (g d ρ s).bind fun ρ1 s1 => r t ρ1 s1
  | [] => .bad
def gTupD (n : Nat) (r : MGs) : MG := fun d ρ s => match d with
  | .tup ds => if ds.length = n then r ds ρ s else .bad
  | _ => .bad
def dStore : D → D → D → S → Option S
  | .ref n, .int k, v, s => match s[n]? with
    | some (.lst xs) => (match ixN xs.length k with
      | some j => some (s.set n (.lst (xs.set j v)))
      | none => none)
    | _ => none
  | _, _, _, _ => none
def gSubD (o i : ME) : MG := fun v ρ s => (o ρ s).bind fun x s1 => (i ρ s1).bind fun y s2 => match dStore x y v s2 with
  | some s3 => .ok ρ s3
  | none => .bad
def sAsg (m : ME) (g : MG) : MS := fun ρ s => (m ρ s).st ρ fun d s1 => match g d ρ s1 with
  | .ok ρ1 s2 => .ok (.nx ρ1) s2
  | _ => .bad
def sAug (i : Nat) (f : D → D → S → R D) (m : ME) : MS := fun ρ s => match ρ[i]? with
  | some (some x) => (m ρ s).st ρ fun y s1 => (f x y s1).st ρ fun z s2 => .ok (.nx (ρ.set i (some z))) s2
  | _ => .bad
section
variable {X : Cx} {cl : Cl} {W : Wish} {pos : Pos} {e c : Expr} {m mo mi : ME} {st : Stmt} {rest a b : List Stmt} {ms mr ma mb : MS} {mt : MT}
theorem ss_nil : SSs X cl W [] ssNil := ⟨_, pss_nil, fun Dn σ H ρ ι s e r h => h ι H σ (Ext.refl _ _) r e⟩
theorem ss_cons (h1 : SS X cl W st ms) (h2 : SSs X cl W rest mr) : SSs X cl W (st :: rest) (ssCons ms mr) := by
  obtain ⟨t, p1, q1⟩ := h1.ex
  obtain ⟨u, p2, q2⟩ := h2.ex
  refine ⟨_, pss_cons p1 p2, fun Dn σ H ρ ι s e r h => ?_⟩
  unfold ssCons RS.andThen at h
  refine q1 _ σ H ρ ι s e r ?_
  cases hr : ms ρ s with
  | bad => rw [hr] at h; exact h
  | exc x ρ1 s1 => rw [hr] at h; exact h
  | ok c1 s1 =>
    rw [hr] at h
    cases c1 with
    | nx ρ1 => exact fun ι1 H1 σ1 x1 r1 e1 => q2 Dn σ1 H1 ρ1 ι1 s1 e1 r1 (PoS.ext x1 h)
    | rt d => exact h
    | bk ρ1 => exact h
    | ct ρ1 => exact h
theorem ss_one (h1 : SS X cl W st ms) : SSs X cl W [st] ms := by
  obtain ⟨t, p1, q1⟩ := h1.ex
  exact ⟨_, pss_one p1, q1⟩
theorem ss_pass : SS X cl W (.Pass pos) sPass := ⟨_, ps_pass, fun Dn σ H ρ ι s e r h => h ι H σ (Ext.refl _ _) r e⟩
theorem ss_break : SS X cl W (.Break pos) sBreak := ⟨_, ps_break, fun Dn σ H ρ ι s e r h => h ι H σ (Ext.refl _ _) r e⟩
theorem ss_cont : SS X cl W (.Continue pos) sCont := ⟨_, ps_continue, fun Dn σ H ρ ι s e r h => h ι H σ (Ext.refl _ _) r e⟩
theorem ss_never : SS X cl W st sNever := ⟨_, ps_never, fun Dn σ H ρ ι s e r h => h⟩
theorem sss_never : SSs X cl W rest sNever := ⟨_, pss_never, fun Dn σ H ρ ι s e r h => h⟩
theorem ss_expr (he : SE X cl W e m) (hs : swapsWith e none pos.line X.env = pure false := by rfl) : SS X cl W (.Expr e pos) (sExpr m) := by
  obtain ⟨t, p, q⟩ := he.ex
  refine ⟨_, ps_expr p hs, fun Dn σ H ρ ι s en r h => ?_⟩
  exact q σ H _ ρ ι s en r (PoS.stepE en h fun d s1 ι1 H1 v e1 x1 r1 d1 h1 => h1 ι1 H1 σ (Ext.refl _ _) r1 (en.ext x1))
theorem ss_doc {x j pos'} : SS X cl W (.Expr (.Constant (.str x) j pos) pos') sPass := ⟨_, ps_doc, fun Dn σ H ρ ι s e r h => h ι H σ (Ext.refl _ _) r e⟩
theorem ss_ret (he : SE X cl W e m) : SS X cl W (.Return (some e) pos) (sRet m) := by
  obtain ⟨t, p, q⟩ := he.ex
  refine ⟨_, ps_ret p, fun Dn σ H ρ ι s en r h => ?_⟩
  exact q σ H _ ρ ι s en r (PoS.stepE en h fun d s1 ι1 H1 v e1 x1 r1 d1 h1 => h1 ι1 H1 v (Ext.refl _ _) r1 d1)
theorem ss_retN : SS X cl W (.Return none pos) sRetN := ⟨_, ps_retN, fun Dn σ H ρ ι s e r h => h ι H .non (Ext.refl _ _) r .non⟩
theorem ss_if (hc : SB X cl W c mt) (ha : SSs X cl W a ma) (hb : SSs X cl W b mb) : SS X cl W (.If c a b pos) (sIf mt ma mb) := by
  obtain ⟨t, p, q⟩ := hc.ex
  obtain ⟨ta, pa, qa⟩ := ha.ex
  obtain ⟨tb, pb, qb⟩ := hb.ex
  refine ⟨_, ps_if p pa pb, fun Dn σ H ρ ι s en r h => ?_⟩
  refine q σ H _ ρ ι s en r (PoS.stepT en h fun k s1 ι1 H1 e1 x1 r1 h1 => ?_)
  cases k with
  | true => exact qa Dn σ H1 ρ ι1 s1 (en.ext x1) r1 h1
  | false => exact qb Dn σ H1 ρ ι1 s1 (en.ext x1) r1 h1
/-- a name = e -/
theorem ss_set {x : Str} {pos' : Pos} (i : Nat) (hN : X.N.Nodup) (he : SE X cl W e m) (hi : X.N[i]? = some x := by rfl) (hx : Loc X.env.scope x := by first | exact Or.inl rfl | exact Or.inr rfl)
    (hs : swapsWith e (some (.Name x pos')) pos.line X.env = pure false := by rfl) (hf : X.fn x = true ∨ X.env.scope.names.lookup x = some .local := by first | exact .inl rfl | exact .inr rfl) : SS X cl W (.Assign [.Name x pos'] e pos) (sSet i m) := by
  obtain ⟨t, p, q⟩ := he.ex
  refine ⟨_, ps_set hN hi hx p hs hf, fun Dn σ H ρ ι s en r h => ?_⟩
  exact q σ H _ ρ ι s en r (PoS.stepE en h fun d s1 ι1 H1 v e1 x1 r1 d1 h1 => h1 ι1 H1 _ (Ext.refl _ _) r1 ((en.ext x1).set d1))
/-! targets -/
structure SG (X : Cx) (cl : Cl) (W : Wish) (tg : Expr) (g : MG) : Prop where
  ex : ∃ t, PG X tg t ∧ ∀ d v σ H (Q : L2.St → Hp → Prop) ρ ι s, RelE X.K X.w cl ι H ρ σ → RelS X.K X.w cl ι s H → RelD X.K X.w cl ι H d v →
    (∃ ρ1 s1, g d ρ s = .ok ρ1 s1 ∧ ∀ ι' H' σ', Ext ι H ι' H' → RelS X.K X.w cl ι' s1 H' → RelE X.K X.w cl ι' H' ρ1 σ' → Q σ' H') → t v σ H Q
structure SGs (X : Cx) (cl : Cl) (W : Wish) (tgs : List Expr) (g : MGs) : Prop where
  ex : ∃ t, PGs X tgs t ∧ ∀ ds vs σ H (Q : L2.St → Hp → Prop) ρ ι s, RelE X.K X.w cl ι H ρ σ → RelS X.K X.w cl ι s H → RelDs X.K X.w cl ι H ds vs →
    (∃ ρ1 s1, g ds ρ s = .ok ρ1 s1 ∧ ∀ ι' H' σ', Ext ι H ι' H' → RelS X.K X.w cl ι' s1 H' → RelE X.K X.w cl ι' H' ρ1 σ' → Q σ' H') → t vs σ H Q
theorem sg_name {x : Str} (i : Nat) (hN : X.N.Nodup) (hi : X.N[i]? = some x := by rfl) (hx : Loc X.env.scope x := by first | exact Or.inl rfl | exact Or.inr rfl)
    (hf : X.fn x = true ∨ X.env.scope.names.lookup x = some .local := by first | exact .inl rfl | exact .inr rfl) : SG X cl W (.Name x pos) (gSlot i) := by
  refine ⟨_, pg_name hN hi hx hf, fun d v σ H Q ρ ι s en r rd ⟨ρ1, s1, e1, h⟩ => ?_⟩
  cases e1
  exact h ι H _ (Ext.refl _ _) r (en.set rd)
theorem sgs_nil : SGs X cl W [] gsNil := by
  refine ⟨_, pgs_nil, fun ds vs σ H Q ρ ι s en r rd ⟨ρ1, s1, e1, h⟩ => ?_⟩
  unfold gsNil at e1
  cases rd with
  | nil => cases e1; exact ⟨rfl, h ι H _ (Ext.refl _ _) r en⟩
  | cons _ _ => cases e1
theorem sgs_cons {tg : Expr} {tgs : List Expr} {g : MG} {gr : MGs} (h1 : SG X cl W tg g) (h2 : SGs X cl W tgs gr)
    (hs : (assignEach (tg :: tgs) X.env).map (·.2) = assign tg X.env :: (assignEach tgs X.env).map (·.2) := by rfl) : SGs X cl W (tg :: tgs) (gsCons g gr) := by
  obtain ⟨t, p, q⟩ := h1.ex
  obtain ⟨u, p2, q2⟩ := h2.ex
  refine ⟨_, pgs_cons p p2 hs, fun ds vs σ H Q ρ ι s en r rd ⟨ρ1, s1, e1, h⟩ => ?_⟩
  unfold gsCons at e1
  cases rd with
  | nil => cases e1
  | @cons d v ds vs rd rds =>
    refine ⟨v, vs, rfl, q d v σ H _ ρ ι s en r rd ?_⟩
    cases e2 : g d ρ s with
    | ok ρ2 s2 =>
      refine ⟨ρ2, s2, rfl, fun ι2 H2 σ2 x2 r2 en2 => ?_⟩
      simp only [e2, R.bind] at e1
      exact q2 ds vs σ2 H2 Q ρ2 ι2 s2 en2 r2 (rds.ext x2) ⟨ρ1, s1, e1, fun ι3 H3 σ3 x3 => h ι3 H3 σ3 (x2.trans x3)⟩
    | exc x s2 => simp only [e2, R.bind] at e1; cases e1
    | bad => simp only [e2, R.bind] at e1; cases e1
theorem sg_tup {es : List Expr} {k n : Nat} {gr : MGs} (hc : X.calm = true) (h : SGs X cl W es gr) (hn : (assignEach es X.env).length = n := by rfl) (hst : (assignEach es X.env).findIdx? (·.1) = none := by rfl) : SG X cl W (.Tuple es k pos) (gTupD n gr) := by
  obtain ⟨t, p, q⟩ := h.ex
  refine ⟨_, pg_tup hc p hn hst, fun d v σ H Q ρ ι s en r rd ⟨ρ1, s1, e1, h⟩ => ?_⟩
  unfold gTupD at e1
  cases rd with
  | @tup ds a vs ht rt =>
    simp only at e1
    split at e1
    · rename_i hl
      exact ⟨a, vs, rfl, ht.sq, by rw [← rt.length]; exact hl, q ds vs σ H Q ρ ι s en r rt ⟨ρ1, s1, e1, h⟩⟩
    · cases e1
  | _ => cases e1
def AnySet (X : Cx) : TSet := fun o i v H Q => ∃ t, PSet X t ∧ t o i v H Q
theorem anySet : PSet X (AnySet X) := fun pins s σ H o i v ov iv u Q I ro ri rv ⟨t, p, h⟩ => p pins s σ H o i v ov iv u Q I ro ri rv h
theorem sg_sub {o i : Expr} (ho : SE X cl W o mo) (hi : SE X cl W i mi)
    (ha : ∀ v, assign (.Subscript o i pos) X.env v = (do
      let ov ← holding [v] (eval o X.env)
      let iv ← holding [v, ov] (eval i X.env)
      standAt pos
      holding [v, ov, iv] (setItem ov iv v)
      release [v, ov, iv] []) := by intro _; rfl) : SG X cl W (.Subscript o i pos) (gSubD mo mi) := by
  obtain ⟨t, p, q⟩ := ho.ex
  obtain ⟨u, p2, q2⟩ := hi.ex
  refine ⟨_, pg_sub p p2 anySet ha, fun d v σ H Q ρ ι s en r rd ⟨ρ1, s1, e1, h⟩ => ?_⟩
  unfold gSubD at e1
  refine q σ H _ ρ ι s en r ?_
  cases e2 : mo ρ s with
  | bad => simp only [e2, R.bind] at e1; cases e1
  | exc x s2 => simp only [e2, R.bind] at e1; cases e1
  | ok x s2 =>
  simp only [e2, R.bind] at e1
  intro ι2 H2 v2 x2 r2 rx
  refine q2 σ H2 _ ρ ι2 s2 (en.ext x2) r2 ?_
  cases e3 : mi ρ s2 with
  | bad => simp only [e3] at e1; cases e1
  | exc x s3 => simp only [e3] at e1; cases e1
  | ok y s3 =>
  simp only [e3] at e1
  intro ι3 H3 v3 x3 r3 ry
  split at e1
  · rename_i s4 e4
    cases e1
    unfold dStore at e4
    split at e4
    · rename_i n k
      split at e4
      · rename_i xs e5
        split at e4
        · rename_i j e6
          cases e4
          have rx3 := rx.ext x3
          cases rx3 with
          | ref hn =>
          cases ry
          obtain ⟨a', ea, vs, hv, rv⟩ := r3.at_ n _ e5
          rw [hn] at ea
          obtain rfl := Option.some.inj ea
          rename_i a'
          refine ⟨_, set_list, a', vs, k, j, rfl, rfl, hv, by rw [← rv.length]; exact e6, ?_⟩
          have hm : a' ∈ ι3 := List.mem_of_getElem? hn
          have xw : Ext ι3 H3 ι3 (upd H3 a' (.lst (vs.set j v))) := Ext.write hm
          exact h ι3 _ σ ((x2.trans x3).trans xw) (r3.write hn ⟨_, upd_same, (RelDs.set ((rd.ext x2).ext x3) j rv).ext xw⟩) (((en.ext x2).ext x3).ext xw)
        · cases e4
      · cases e4
    · cases e4
  · cases e1
theorem ss_asg {tg : Expr} {g : MG} (he : SE X cl W e m) (hg : SG X cl W tg g) (hs : swapsWithSole [tg] e pos.line X.env = pure false := by rfl) (hw : swappedStores [tg] e X.env = pure none := by rfl) (ha : (assignEach [tg] X.env).map (·.2) = [assign tg X.env] := by rfl) : SS X cl W (.Assign [tg] e pos) (sAsg m g) := by
  obtain ⟨t, p, q⟩ := he.ex
  obtain ⟨u, p2, q2⟩ := hg.ex
  refine ⟨_, ps_asg p p2 hs hw ha, fun Dn σ H ρ ι s en r h => ?_⟩
  refine q σ H _ ρ ι s en r (PoS.stepE en h fun d s1 ι1 H1 v e1 x1 r1 d1 h1 => ?_)
  refine q2 d v σ H1 _ ρ ι1 s1 (en.ext x1) r1 d1 ?_
  cases e2 : g d ρ s1 with
  | ok ρ2 s2 => simp only [e2] at h1; exact ⟨ρ2, s2, rfl, h1⟩
  | exc x s2 => simp only [e2] at h1; exact False.elim h1
  | bad => simp only [e2] at h1; exact False.elim h1
/-! op= -/
def AnyIp (X : Cx) (op : Operator) : TIp := fun x y H Q => ∃ t, PIp X op t ∧ t x y H Q
theorem anyIp {op : Operator} : PIp X op (AnyIp X op) := fun pins s σ H x y v u Q I rx ry ⟨t, p, h⟩ => p pins s σ H x y v u Q I rx ry h
def IpD (X : Cx) (cl : Cl) (op : Operator) (g : D → D → S → R D) : Prop :=
  ∀ (W : Wish) (ι : List Addr) (H : Hp) (σ : L2.St) (Q : VK) (s : S) (dx dy : D) (x y : V), RelS X.K X.w cl ι s H → RelD X.K X.w cl ι H dx x → RelD X.K X.w cl ι H dy y → PoE X.K X.w cl W ι H σ Q (g dx dy s) → AnyIp X op x y H Q
def dIAdd : D → D → S → R D
  | .int a, .int b, s => .ok (.int (a + b)) s
  | .str a, .str b, s => if a.length + b.length ≤ sizeLine then .ok (.str (a ++ b)) s else .bad
  | _, _, _ => .bad
theorem d_iadd : IpD X cl .Add dIAdd := by
  intro W ι H σ Q s dx dy x y rs rx ry h
  unfold dIAdd at h
  split at h
  · cases rx; cases ry
    exact ⟨_, ip_add, _, _, rfl, rfl, h ι H _ (Ext.refl _ _) rs (.int _)⟩
  · cases rx; cases ry
    split at h
    · exact ⟨_, iop_add_str, _, _, rfl, rfl, by assumption, h ι H _ (Ext.refl _ _) rs (.str _)⟩
    · exact False.elim h
  · exact False.elim h
theorem ss_aug {x : Str} {pos' : Pos} {op : Operator} {g : D → D → S → R D} (i : Nat) (hN : X.N.Nodup) (ho : IpD X cl op g) (he : SE X cl W e m) (hi : X.N[i]? = some x := by rfl) (hx : Loc X.env.scope x := by first | exact Or.inl rfl | exact Or.inr rfl)
    (hf : X.fn x = true ∨ X.env.scope.names.lookup x = some .local := by first | exact .inl rfl | exact .inr rfl) : SS X cl W (.AugAssign (.Name x pos') op e pos) (sAug i g m) := by
  obtain ⟨t, p, q⟩ := he.ex
  refine ⟨_, ps_aug hN hi hx p anyIp hf, fun Dn σ H ρ ι s en r h => ?_⟩
  unfold sAug at h
  split at h
  · rename_i d ed
    obtain ⟨v, ev, rd⟩ := en.at_ i d ed
    refine ⟨v, ev, q σ H _ ρ ι s en r (PoS.stepE en h fun d1 s1 ι1 H1 v1 e1 x1 r1 rd1 h1 => ?_)⟩
    refine ho W ι1 H1 σ _ s1 d d1 v v1 r1 (rd.ext x1) rd1 (PoS.stepE (en.ext x1) h1 fun d2 s2 ι2 H2 v2 e2 x2 r2 rd2 h2 => ?_)
    exact h2 ι2 H2 _ (Ext.refl _ _) r2 (((en.ext x1).ext x2).set rd2)
  · exact False.elim h
end

/-! ### loops -/
def gOk : Option Nat → List D → S → Prop
  | none, _, _ => True
  | some n, l, s => s[n]? = some (.lst l)
open Classical in
noncomputable def forL (gd : Option Nat) (all : List D) (g : MG) (b : MS) : List D → Rho → S → RS
  | [], ρ, s => if gOk gd all s then .ok (.nx ρ) s else .bad
  | x :: xs, ρ, s => if gOk gd all s then match g x ρ s with
    | .ok ρ1 s1 => match b ρ1 s1 with
      | .ok (.nx ρ2) s2 => forL gd all g b xs ρ2 s2
      | .ok (.ct ρ2) s2 => forL gd all g b xs ρ2 s2
      | .ok (.bk ρ2) s2 => .ok (.nx ρ2) s2
      | .ok (.rt d) s2 => .ok (.rt d) s2
      | .exc x ρ2 s2 => .exc x ρ2 s2
      | .bad => .bad
    | _ => .bad
    else .bad
abbrev MI := Rho → S → R (List D × Option Nat)
noncomputable def sFor (it : MI) (g : MG) (b : MS) : MS := fun ρ s => (it ρ s).st ρ fun p s1 => forL p.2 p.1 g b p.1 ρ s1
/-- a heap without what stands at an address -/
def hd : Option Addr → Hp → Hp
  | none, H => H
  | some a, H => fun b => if b = a then none else H b
theorem hd_none {H : Hp} : hd none H = H := rfl
theorem hd_ne {a b : Addr} {H : Hp} (h : b ≠ a) : hd (some a) H b = H b := if_neg h
theorem hd_self {a : Addr} {H : Hp} : hd (some a) H a = none := if_pos rfl
/-- the items come in their order; z: an address that is hidden from the data (a comprehension's own list) -/
def ItOk (K : PySem.W.Frag) (w : World) (cl : Cl) (p : List D × Option Nat) (J : It) (ι0 : List Addr) (H0 : Hp) : Prop :=
  ∀ (z : Option Addr) (i : Nat) (ι : List Addr) (H : Hp) (s : S), (∀ a, z = some a → H a ≠ none) → Ext ι0 H0 ι (hd z H) → RelS K w cl ι s (hd z H) → gOk p.2 p.1 s →
    (i < p.1.length → J.go i H ∧ ∀ x H', J.yld i H x H' → (∀ a, z = some a → H' a = H a) ∧ ∃ d, p.1[i]? = some d ∧ Ext ι (hd z H) ι (hd z H') ∧ RelS K w cl ι s (hd z H') ∧ RelD K w cl ι (hd z H') d x) ∧ (i = p.1.length → J.stop i H)
structure SI (X : Cx) (cl : Cl) (W : Wish) (tg iter : Expr) (m : MI) : Prop where
  ex : ∃ wi, PI X tg iter wi ∧ ∀ (σ : L2.St) (H : Hp) (Q : It → Hp → Prop) ρ ι s, RelE X.K X.w cl ι H ρ σ → RelS X.K X.w cl ι s H →
    (match m ρ s with
      | .ok p s1 => ∀ ι' H' J, Ext ι H ι' H' → RelS X.K X.w cl ι' s1 H' → ItOk X.K X.w cl p J ι' H' → Q J H'
      | .exc x s1 => ∀ ι' H' c d, Ext ι H ι' H' → RelS X.K X.w cl ι' s1 H' → RelX X.K X.w cl ι' H' x c d → W c d σ H'
      | .bad => False) → wi σ H Q
section
variable {X : Cx} {cl : Cl} {W : Wish} {pos : Pos} {tg iter c : Expr} {body : List Stmt} {it : MI} {g : MG} {b : MS} {mt : MT}
theorem ss_for (hp : PassesOwn (model X.prog X.w) X.A X.env X.xe) (hc : X.calm = true) (hi : SI X cl W tg iter it) (hg : SG X cl W tg g) (hb : SSs X cl W body b)
    (hs : ∀ x, foldedSetIterable iter X.env x = pure x := by intro _; rfl) : SS X cl W (.For tg iter body [] pos) (sFor it g b) := by
  obtain ⟨wi, p1, q1⟩ := hi.ex
  obtain ⟨tg', p2, q2⟩ := hg.ex
  obtain ⟨tb, p3, q3⟩ := hb.ex
  refine ⟨_, ps_for hp hc p1 p2 p3 hs, fun Dn σ H ρ ι s en r h => ?_⟩
  unfold sFor at h
  refine q1 σ H _ ρ ι s en r ?_
  cases e1 : it ρ s with
  | bad => rw [e1] at h; exact h
  | exc x s1 => rw [e1] at h; exact fun ι2 H2 c dd x2 rs rx => h ι2 H2 σ c dd x2 rs (en.ext x2) rx
  | ok p s1 =>
  rw [e1] at h
  intro ι1 H1 J x1 r1 ok
  have h1 : PoS X.K X.w cl W ι1 H1 Dn (forL p.2 p.1 g b p.1 ρ s1) := PoS.ext x1 h
  refine ⟨fun i m σ' H' => m = p.1.length - i ∧ i ≤ p.1.length ∧ ∃ ρ' ι' s', Ext ι1 H1 ι' H' ∧ RelS X.K X.w cl ι' s' H' ∧ RelE X.K X.w cl ι' H' ρ' σ' ∧ PoS X.K X.w cl W ι' H' Dn (forL p.2 p.1 g b (p.1.drop i) ρ' s'),
    ⟨p.1.length, rfl, Nat.zero_le _, ρ, ι1, s1, Ext.refl _ _, r1, en.ext x1, h1⟩, ?_⟩
  rintro i m σ2 H2 ⟨rfl, hi2, ρ2, ι2, s2, x2, r2, en2, h2⟩
  by_cases hlt : i < p.1.length
  · have ed : p.1.drop i = p.1[i] :: p.1.drop (i + 1) := List.drop_eq_getElem_cons hlt
    rw [ed] at h2
    unfold forL at h2
    split at h2
    · rename_i hg2
      obtain ⟨go, yl⟩ := (ok none i ι2 H2 s2 (fun _ z => nomatch z) x2 r2 hg2).1 hlt
      refine .inr ⟨go, fun σ' H' => i + 1 ≤ p.1.length ∧ ∃ ρ' ι' s', Ext ι1 H1 ι' H' ∧ RelS X.K X.w cl ι' s' H' ∧ RelE X.K X.w cl ι' H' ρ' σ' ∧ PoS X.K X.w cl W ι' H' Dn (forL p.2 p.1 g b (p.1.drop (i + 1)) ρ' s'), fun σ' H' ⟨h5, h6⟩ => ⟨p.1.length - (i + 1), by omega, rfl, h5, h6⟩, fun x H3 y => ?_⟩
      obtain ⟨_, d, ed2, x3, r3, rd⟩ := yl x H3 y
      rw [hd_none, hd_none] at x3
      rw [hd_none] at r3 rd
      rw [List.getElem?_eq_getElem hlt] at ed2
      cases ed2
      refine q2 p.1[i] x σ2 H3 _ ρ2 ι2 s2 (en2.ext x3) r3 rd ?_
      cases e4 : g p.1[i] ρ2 s2 with
      | bad => rw [e4] at h2; exact False.elim h2
      | exc x s4 => rw [e4] at h2; exact False.elim h2
      | ok ρ4 s4 =>
      rw [e4] at h2
      refine ⟨ρ4, s4, rfl, fun ι4 H4 σ4 x4 r4 en4 => ?_⟩
      have h4 := PoS.ext (x3.trans x4) h2
      refine q3 _ σ4 H4 ρ4 ι4 s4 en4 r4 ?_
      simp only at h4
      have x14 := (x2.trans x3).trans x4
      cases e5 : b ρ4 s4 with
      | bad => rw [e5] at h4; exact h4
      | exc x ρ5 s5 => rw [e5] at h4; exact h4
      | ok c5 s5 =>
        rw [e5] at h4
        cases c5 with
        | nx ρ5 => exact fun ι5 H5 σ5 x5 r5 en5 => ⟨hlt, ρ5, ι5, s5, x14.trans x5, r5, en5, PoS.ext x5 h4⟩
        | ct ρ5 => exact fun ι5 H5 σ5 x5 r5 en5 => ⟨hlt, ρ5, ι5, s5, x14.trans x5, r5, en5, PoS.ext x5 h4⟩
        | bk ρ5 => exact h4
        | rt d5 => exact h4
    · exact False.elim h2
  · have e : p.1.drop i = [] := List.drop_eq_nil_of_le (by omega)
    rw [e] at h2
    unfold forL at h2
    split at h2
    · rename_i hg2
      exact .inl ⟨(ok none i ι2 H2 s2 (fun _ z => nomatch z) x2 r2 hg2).2 (by omega), h2 ι2 H2 σ2 (Ext.refl _ _) r2 en2⟩
    · exact False.elim h2
end
end Pm
namespace Pm
open PySem PySem.Spec PyProof.Rows L2

/-! ### what a for walks -/
def iSeq (m : ME) : MI := fun ρ s => (m ρ s).bind fun d s1 => match d with
  | .lst xs => .ok (xs, none) s1
  | .ref n => (match s1[n]? with
    | some (.lst xs) => .ok (xs, some n) s1
    | _ => .bad)
  | _ => .bad
def iTupD (m : ME) : MI := fun ρ s => (m ρ s).bind fun d s1 => match d with
  | .tup xs => .ok (xs, none) s1
  | _ => .bad
def iStrD (m : ME) : MI := fun ρ s => (m ρ s).bind fun d s1 => match d with
  | .str x => .ok (x.cps.toList.map fun c => .str ⟨#[c]⟩, none) s1
  | _ => .bad
def rng (lo : Int) (n : Nat) : List D := (List.range n).map fun i => .int (lo + (i : Nat))
def iRange1 (m : ME) : MI := fun ρ s => (m ρ s).bind fun d s1 => match d with
  | .int j => if -(2 ^ 62) ≤ j ∧ j < 2 ^ 62 then .ok (rng 0 j.toNat, none) s1 else .bad
  | _ => .bad
def iRange2 (m1 m2 : ME) : MI := fun ρ s => (m1 ρ s).bind fun d s1 => (m2 ρ s1).bind fun e s2 => match d, e with
  | .int i, .int j => if -(2 ^ 62) ≤ i ∧ i < 2 ^ 62 ∧ -(2 ^ 62) ≤ j ∧ j < 2 ^ 62 then .ok (rng i (j - i).toNat, none) s2 else .bad
  | _, _ => .bad
section
variable {K : PySem.W.Frag} {w : World} {cl : Cl} {ι ι' : List Addr} {H H' : Hp} {z : Option Addr}
theorem hd_some {a : Addr} {o : HO} (h : hd z H a = some o) : H a = some o := by
  cases z with
  | none => exact h
  | some b =>
    unfold hd at h
    simp only at h
    split at h
    · cases h
    · exact h
theorem rd_act {a : Addr} {u : HO} (h : Rd (hd z H) a u) : Rd H a u := by
  rcases h with h | ⟨o, h⟩
  · exact .inl (hd_some h)
  · exact .inr ⟨o, hd_some h⟩
theorem SL.act {a : Addr} {xs : List V} (h : SL K ι (hd z H) a xs) : SqL K H a xs := by
  rcases h with ⟨h, n⟩ | h
  · exact .inl (rd_act h)
  · exact .inr h
theorem ST.act {a : Addr} {xs : List V} (h : ST K ι (hd z H) a xs) : SqT K H a xs := by
  rcases h with ⟨h, n⟩ | h
  · exact .inl (rd_act h)
  · exact .inr h
/-- items of a list of data, one by one -/
theorem list_ok {ds : List D} {gd : Option Nat} {a : Addr} {ι1 : List Addr} {H1 : Hp}
    (h : ∀ z ι H s, Ext ι1 H1 ι (hd z H) → RelS K w cl ι s (hd z H) → gOk gd ds s → ∃ vs, SqL K H a vs ∧ RelDs K w cl ι (hd z H) ds vs) : ItOk K w cl (ds, gd) (Itl K a) ι1 H1 := by
  intro z i ι2 H2 s2 hz x2 r2 g2
  obtain ⟨vs, hl2, rl2⟩ := h z ι2 H2 s2 x2 r2 g2
  refine ⟨fun hi => ?_, fun hi => ?_⟩
  · obtain ⟨v, ev, rv⟩ := rl2.get (List.getElem?_eq_getElem hi)
    refine ⟨⟨_, v, hl2, ev⟩, fun x H' ⟨eH, y⟩ => ?_⟩
    subst eH
    have ex := y _ hl2
    rw [ev] at ex
    cases ex
    exact ⟨fun _ _ => rfl, _, List.getElem?_eq_getElem hi, Ext.refl _ _, r2, rv⟩
  · exact ⟨_, hl2, by rw [← rl2.length]; exact Nat.le_of_eq hi.symm⟩
theorem tup_ok {ds : List D} {a : Addr} {ι1 : List Addr} {H1 : Hp}
    (h : ∀ z ι H s, Ext ι1 H1 ι (hd z H) → RelS K w cl ι s (hd z H) → ∃ vs, SqT K H a vs ∧ RelDs K w cl ι (hd z H) ds vs) : ItOk K w cl (ds, none) (Itt K a) ι1 H1 := by
  intro z i ι2 H2 s2 hz x2 r2 g2
  obtain ⟨vs, hl2, rl2⟩ := h z ι2 H2 s2 x2 r2
  refine ⟨fun hi => ?_, fun hi => ?_⟩
  · obtain ⟨v, ev, rv⟩ := rl2.get (List.getElem?_eq_getElem hi)
    refine ⟨⟨_, v, hl2, ev⟩, fun x H' ⟨eH, y⟩ => ?_⟩
    subst eH
    have ex := y _ hl2
    rw [ev] at ex
    cases ex
    exact ⟨fun _ _ => rfl, _, List.getElem?_eq_getElem hi, Ext.refl _ _, r2, rv⟩
  · exact ⟨_, hl2, by rw [← rl2.length]; exact Nat.le_of_eq hi.symm⟩
theorem rng_ok {lo : Int} {n : Nat} {ι : List Addr} {H : Hp} : ItOk K w cl (rng lo n, none) (Itr lo n) ι H := by
  intro z i ι2 H2 s2 hz x2 r2 _
  refine ⟨fun hi => ?_, fun hi => ?_⟩
  · have hi' : i < n := by simpa [rng] using hi
    refine ⟨hi', fun y H' ⟨eH, ey⟩ => ?_⟩
    subst eH ey
    refine ⟨fun _ _ => rfl, .int (lo + i), ?_, Ext.refl _ _, r2, .int _⟩
    show (rng lo n)[i]? = _
    unfold rng
    rw [List.getElem?_map, List.getElem?_range hi']
    rfl
  · have hi' : n ≤ i := Nat.le_of_eq (by simpa [rng] using hi.symm)
    exact hi'
theorem str_ok {x : Str} {ι : List Addr} {H : Hp} : ItOk K w cl (x.cps.toList.map fun c => D.str ⟨#[c]⟩, none) (Its x) ι H := by
  intro z i ι2 H2 s2 hz x2 r2 _
  refine ⟨fun hi => ?_, fun hi => ?_⟩
  · have hi' : i < x.cps.size := by simpa using hi
    refine ⟨hi', fun y H' ⟨eH, c, ec, ey⟩ => ?_⟩
    subst eH ey
    refine ⟨fun _ _ => rfl, .str ⟨#[c]⟩, ?_, Ext.refl _ _, r2, .str _⟩
    rw [List.getElem?_map, Array.getElem?_toList, ec]
    rfl
  · have hi' : x.cps.size ≤ i := Nat.le_of_eq (by simpa using hi.symm)
    exact hi'
end
section
variable {X : Cx} {cl : Cl} {W : Wish} {pos p : Pos} {tg e e2 : Expr} {m mb : ME}
theorem si_seq (he : SE X cl W e m) : SI X cl W tg e (iSeq m) := by
  obtain ⟨t, p, q⟩ := he.ex
  refine ⟨_, pi_list p, fun σ H Q ρ ι s en r h => ?_⟩
  unfold iSeq at h
  refine q σ H _ ρ ι s en r ?_
  cases e1 : m ρ s with
  | bad => rw [e1] at h; exact h
  | exc x s1 => rw [e1] at h; exact h
  | ok d s1 =>
  rw [e1] at h
  intro ι1 H1 v x1 r1 rd
  simp only [R.bind] at h
  cases rd with
  | @lst ds a vs hl rl => exact ⟨a, rfl, ⟨_, hl.sq⟩, h ι1 H1 _ x1 r1 (list_ok fun z ι H s x r _ => ⟨_, (hl.ext x).act, rl.ext x⟩)⟩
  | @ref n a hn =>
    simp only at h
    cases e5 : s1[n]? with
    | none => rw [e5] at h; exact False.elim h
    | some o =>
    cases o with
    | ins c fs => rw [e5] at h; exact False.elim h
    | dK kvs => rw [e5] at h; exact False.elim h
    | lst xs =>
    rw [e5] at h
    obtain ⟨a', ea, vs, hv, rv⟩ := r1.at_ n _ e5
    rw [hn] at ea
    obtain rfl := Option.some.inj ea
    refine ⟨_, rfl, ⟨_, SqL.of hv⟩, h ι1 H1 _ x1 r1 (list_ok fun z ι H s x r g => ?_)⟩
    obtain ⟨a2, ea2, vs2, hv2, rv2⟩ := r.at_ n _ g
    rw [x.at hn] at ea2
    obtain rfl := Option.some.inj ea2
    exact ⟨_, SqL.of (hd_some hv2), rv2⟩
  | _ => exact False.elim h
theorem si_tup (he : SE X cl W e m) : SI X cl W tg e (iTupD m) := by
  obtain ⟨t, p, q⟩ := he.ex
  refine ⟨_, pi_tup p, fun σ H Q ρ ι s en r h => ?_⟩
  unfold iTupD at h
  refine q σ H _ ρ ι s en r ?_
  cases e1 : m ρ s with
  | bad => rw [e1] at h; exact h
  | exc x s1 => rw [e1] at h; exact h
  | ok d s1 =>
  rw [e1] at h
  intro ι1 H1 v x1 r1 rd
  simp only [R.bind] at h
  cases rd with
  | @tup ds a vs hl rl => exact ⟨a, rfl, ⟨_, hl.sq⟩, h ι1 H1 _ x1 r1 (tup_ok fun z ι H s x r => ⟨_, (hl.ext x).act, rl.ext x⟩)⟩
  | _ => exact False.elim h
theorem si_str (he : SE X cl W e m) : SI X cl W tg e (iStrD m) := by
  obtain ⟨t, p, q⟩ := he.ex
  refine ⟨_, pi_str p, fun σ H Q ρ ι s en r h => ?_⟩
  unfold iStrD at h
  refine q σ H _ ρ ι s en r ?_
  cases e1 : m ρ s with
  | bad => rw [e1] at h; exact h
  | exc x s1 => rw [e1] at h; exact h
  | ok d s1 =>
  rw [e1] at h
  intro ι1 H1 v x1 r1 rd
  simp only [R.bind] at h
  cases rd with
  | str x => exact ⟨x, rfl, h ι1 H1 _ x1 r1 str_ok⟩
  | _ => exact False.elim h
/-- a list, a tuple or a text, whichever comes -/
def iAny (m : ME) : MI := fun ρ s => (m ρ s).bind fun d s1 => match d with
  | .lst xs => .ok (xs, none) s1
  | .tup xs => .ok (xs, none) s1
  | .str x => .ok (x.cps.toList.map fun c => .str ⟨#[c]⟩, none) s1
  | .ref n => (match s1[n]? with
    | some (.lst xs) => .ok (xs, some n) s1
    | _ => .bad)
  | _ => .bad
theorem si_any (he : SE X cl W e m) : SI X cl W tg e (iAny m) := by
  obtain ⟨w1, p1, q1⟩ := (si_seq (tg := tg) he).ex
  obtain ⟨w2, p2, q2⟩ := (si_tup (tg := tg) he).ex
  obtain ⟨w3, p3, q3⟩ := (si_str (tg := tg) he).ex
  refine ⟨fun σ H R => w1 σ H R ∨ w2 σ H R ∨ w3 σ H R, ⟨fun pins s σ H R I h => ?_⟩, fun σ H Q ρ ι s en r h => ?_⟩
  · rcases h with h | h | h
    · exact p1.run pins s σ H R I h
    · exact p2.run pins s σ H R I h
    · exact p3.run pins s σ H R I h
  unfold iAny at h
  cases e1 : m ρ s with
  | bad => rw [e1] at h; exact h.elim
  | exc x s1 => exact .inl (q1 σ H Q ρ ι s en r (by unfold iSeq; rw [e1] at h ⊢; exact h))
  | ok d s1 =>
    cases d with
    | tup xs => exact .inr (.inl (q2 σ H Q ρ ι s en r (by unfold iTupD; rw [e1] at h ⊢; exact h)))
    | str x => exact .inr (.inr (q3 σ H Q ρ ι s en r (by unfold iStrD; rw [e1] at h ⊢; exact h)))
    | _ => exact .inl (q1 σ H Q ρ ι s en r (by unfold iSeq; rw [e1] at h ⊢; exact h))
theorem si_range1 (hg : Gl X "range") (hm : X.mg "range" = none) (he : SE X cl W e m) (hs : starEach [e] X.env = [(false, eval e X.env)] := by rfl) : SI X cl W tg (.Call (.Name "range" p) [e] [] pos) (iRange1 m) := by
  obtain ⟨t, p, q⟩ := he.ex
  refine ⟨_, pi_range1 hg hm (pa_cons p pa_nil (by rw [hs]; rfl)) hs, fun σ H Q ρ ι s en r h => ?_⟩
  unfold iRange1 at h
  refine q σ H _ ρ ι s en r ?_
  cases e1 : m ρ s with
  | bad => rw [e1] at h; exact h
  | exc x s1 => rw [e1] at h; exact h
  | ok d s1 =>
  rw [e1] at h
  intro ι1 H1 v x1 r1 rd
  simp only [R.bind] at h
  cases rd with
  | int j =>
    simp only at h
    by_cases hj : -(2 ^ 62) ≤ j ∧ j < 2 ^ 62
    · rw [if_pos hj] at h
      exact ⟨j, rfl, hj.1, hj.2, h ι1 H1 _ x1 r1 rng_ok⟩
    · rw [if_neg hj] at h; exact False.elim h
  | _ => exact False.elim h
theorem si_range2 (hg : Gl X "range") (hm : X.mg "range" = none) (he : SE X cl W e m) (hb : SE X cl W e2 mb) (hs : starEach [e, e2] X.env = [(false, eval e X.env), (false, eval e2 X.env)] := by rfl) (hs2 : starEach [e2] X.env = [(false, eval e2 X.env)] := by rfl) :
    SI X cl W tg (.Call (.Name "range" p) [e, e2] [] pos) (iRange2 m mb) := by
  obtain ⟨t, p, q⟩ := he.ex
  obtain ⟨u, p2, q2⟩ := hb.ex
  refine ⟨_, pi_range2 hg hm (pa_cons p (pa_cons p2 pa_nil (by rw [hs2]; rfl)) (by rw [hs, hs2])) hs hs2, fun σ H Q ρ ι s en r h => ?_⟩
  unfold iRange2 at h
  refine q σ H _ ρ ι s en r ?_
  cases e1 : m ρ s with
  | bad => rw [e1] at h; exact h
  | exc x s1 => rw [e1] at h; exact h
  | ok d s1 =>
  rw [e1] at h
  intro ι1 H1 v x1 r1 rd
  simp only [R.bind] at h
  refine q2 σ H1 _ ρ ι1 s1 (en.ext x1) r1 ?_
  cases e3 : mb ρ s1 with
  | bad => rw [e3] at h; exact h
  | exc x s2 => rw [e3] at h; exact fun ι2 H2 c dd x2 => h ι2 H2 c dd (x1.trans x2)
  | ok d2 s2 =>
  rw [e3] at h
  intro ι2 H2 v2 x2 r2 rd2
  simp only at h
  cases rd with
  | int i =>
    cases rd2 with
    | int j =>
      simp only at h
      by_cases hj : -(2 ^ 62) ≤ i ∧ i < 2 ^ 62 ∧ -(2 ^ 62) ≤ j ∧ j < 2 ^ 62
      · rw [if_pos hj] at h
        exact ⟨i, j, rfl, hj, h ι2 H2 _ (x1.trans x2) r2 rng_ok⟩
      · rw [if_neg hj] at h; exact False.elim h
    | _ => exact False.elim h
  | _ => exact False.elim h
end
end Pm
namespace Pm
open PySem PySem.Spec PyProof.Rows L2

/-! ### a list that is being made is hidden while its items are reckoned -/
section
variable {X : Cx}
theorem fs_none {pins : List (Addr × Obj)} {σ : L2.St} {H : Hp} {s : Shared} (I : Inv X pins σ H s) {b : Addr} (hb : b ∈ X.fs) : H b = none := by
  obtain ⟨_, o, ho, _⟩ := I.ok.funs.mem hb
  exact I.base.free b o ho (I.ok.frf b hb) fun z => I.ok.exfs b z hb
/-- hidden: its object is pinned -/
theorem hide_in {pins : List (Addr × Obj)} {σ : L2.St} {H : Hp} {s : Shared} {D : Addr} {vs : List V} (I : Inv X pins σ H s) (hD : H D = some (.lst vs)) :
    ∃ its n, Vals vs its ∧ vs.length ≤ sizeLine ∧ Inv X (pins ++ [(D, ({ cls := .type "list", data := .seq its.toArray n } : Obj))]) σ (hd (some D) H) s := by
  obtain ⟨z, its, n, r, hl, e⟩ := I.lstM hD
  refine ⟨its, n, r, z, ?_⟩
  have ne : ∀ {b : Addr} {u : HO}, H b = some u → u ≠ .lst vs → hd (some D) H b = some u := fun {b u} h1 h2 => by
    rw [hd_ne (fun z => h2 (by rw [z, hD] at h1; exact (Option.some.inj h1).symm))]; exact h1
  have no : ∀ {b : Addr}, H b = none → hd (some D) H b = none := fun {b} h1 => by
    by_cases hb : b = D
    · rw [hb]; exact hd_self
    · rw [hd_ne hb]; exact h1
  refine ⟨I.ok, I.os, I.bare, ⟨I.base.keep, I.base.slot, fun b o h1 h2 h3 => no (I.base.free b o h1 h2 h3), I.base.there, fun b xs h1 => ne (I.base.tups b xs h1) (fun z => nomatch z), fun b o u h1 => ne (I.base.frzs b o u h1) (fun z => nomatch z), fun b ps h1 => ?_⟩, I.loc, I.cell, no I.free, fun x c h1 => no (I.freeC x c h1), fun p hp => ?_, fun a o h1 => ?_, I.len⟩
  · obtain ⟨more, h2⟩ := I.base.tbls b ps h1
    exact ⟨more, ne h2 fun z => nomatch z⟩
  · rw [← List.append_assoc] at hp
    rcases List.mem_append.mp hp with h1 | h1
    · obtain ⟨a1, a2, a3, a4, a5⟩ := I.pin p h1
      exact ⟨a1, no a2, a3, a4, a5⟩
    · obtain rfl := List.mem_singleton.mp h1
      refine ⟨e, hd_self, fun z => ?_, fun z => ?_, fun v z => nomatch z⟩
      · rw [show D = X.env.locals from z, I.free] at hD; cases hD
      · rw [fs_none I (show D ∈ X.fs from z)] at hD; cases hD
  · have na : a ≠ D := fun z => by rw [z, hd_self] at h1; cases h1
    rw [hd_ne na] at h1
    exact (I.hok a o h1).stay (fun b u _ q => q) (fun b q => ne q fun z => nomatch z) fun b xs q => ne q fun z => nomatch z
theorem hide_out {pins : List (Addr × Obj)} {σ σ' : L2.St} {H H' : Hp} {s s' : Shared} {D : Addr} {vs : List V} {its : List Value} {n : Nat} (I : Inv X pins σ H s) (hD : H D = some (.lst vs)) (r : Vals vs its) (z : vs.length ≤ sizeLine)
    (J : Inv X (pins ++ [(D, ({ cls := .type "list", data := .seq its.toArray n } : Obj))]) σ' H' s') : H' D = none ∧ Inv X pins σ' (upd H' D (.lst vs)) s' := by
  obtain ⟨e, hn, _⟩ := J.pin (D, _) (List.mem_append_right _ (List.mem_append_right _ List.mem_cons_self))
  have e' : s'.heap.get? D = some ({ cls := .type "list", data := .seq its.toArray n } : Obj) := e
  have hn' : H' D = none := hn
  have ne : ∀ {b : Addr} {u : HO}, H' b = some u → upd H' D (.lst vs) b = some u := fun {b u} h1 => by
    rw [upd_ne (fun z => by rw [z, hn'] at h1; cases h1)]; exact h1
  have no : ∀ {b : Addr}, b ≠ D → H' b = none → upd H' D (.lst vs) b = none := fun {b} h1 h2 => by rw [upd_ne h1]; exact h2
  have nL : X.env.locals ≠ D := fun z => by
    have h1 := I.free
    rw [z, hD] at h1
    cases h1
  refine ⟨hn', J.ok, J.os, J.bare, ⟨J.base.keep, J.base.slot, fun b o h1 h2 h3 => no (fun z => ?_) (J.base.free b o h1 h2 h3), J.base.there, fun b xs h1 => ne (J.base.tups b xs h1), fun b o u h1 => ne (J.base.frzs b o u h1), fun b ps h1 => ?_⟩, J.loc, J.cell, no nL J.free, fun x c h1 => no (fun z => ?_) (J.freeC x c h1), fun p hp => ?_, fun a o h1 => ?_, J.len⟩
  · have h4 := I.base.free b o h1 h2 h3
    rw [z, hD] at h4
    cases h4
  · obtain ⟨more, h2⟩ := J.base.tbls b ps h1
    exact ⟨more, ne h2⟩
  · have h4 := I.freeC x c h1
    rw [z, hD] at h4
    cases h4
  · obtain ⟨a1, a2, a3, a4, a5⟩ := J.pin p (by rw [← List.append_assoc]; exact List.mem_append_left _ hp)
    refine ⟨a1, no (fun z => ?_) a2, a3, a4, a5⟩
    have h4 := (I.pin p hp).2.1
    rw [z, hD] at h4
    cases h4
  · by_cases na : a = D
    · subst na
      rw [upd_same] at h1
      cases h1
      exact ⟨z, its, n, r, e'⟩
    · rw [upd_ne na] at h1
      exact (J.hok a o h1).stay (fun b u _ q => q) (fun b q => ne q) fun b xs q => ne q
def tHide (D : Addr) (t : TE) : TE := fun σ H Q => ∃ vs, H D = some (.lst vs) ∧ t σ (hd (some D) H) fun v H' => H' D = none → Q v (upd H' D (.lst vs))
def tHideT (D : Addr) (t : TT) : TT := fun σ H Q => ∃ vs, H D = some (.lst vs) ∧ t σ (hd (some D) H) fun v H' => H' D = none → Q v (upd H' D (.lst vs))
theorem pe_hide {e : Expr} {t : TE} (D : Addr) (h : PE X e t) : PE X e (tHide D t) := by
  refine ⟨fun pins s σ H Q I ⟨vs, hD, hw⟩ => ?_⟩
  obtain ⟨its, n, r, z, J⟩ := hide_in I hD
  refine thn (h.run _ s σ _ _ J hw) fun u s1 ⟨v, H', J', rv, q⟩ => ?_
  obtain ⟨hn, I'⟩ := hide_out I hD r z J'
  exact ⟨v, _, I', rv, q hn⟩
theorem pts_hide {es : List Expr} {t : TT} (D : Addr) (h : PTs X es t) : PTs X es (tHideT D t) := by
  refine ⟨fun pins s σ H Q I ⟨vs, hD, hw⟩ => ?_⟩
  obtain ⟨its, n, r, z, J⟩ := hide_in I hD
  refine thn (h.run _ s σ _ _ J hw) fun u s1 ⟨H', J', q⟩ => ?_
  obtain ⟨hn, I'⟩ := hide_out I hD r z J'
  exact ⟨_, I', q hn⟩
/-- for any D that the reading chooses -/
theorem pe_hideA {e : Expr} {t : TE} (h : PE X e t) : PE X e (fun σ H Q => ∃ D, tHide D t σ H Q) := ⟨fun pins s σ H Q I ⟨D, hw⟩ => (pe_hide D h).run pins s σ H Q I hw⟩
theorem pts_hideA {es : List Expr} {t : TT} (h : PTs X es t) : PTs X es (fun σ H Q => ∃ D, tHideT D t σ H Q) := ⟨fun pins s σ H Q I ⟨D, hw⟩ => (pts_hide D h).run pins s σ H Q I hw⟩
end

/-! ### comprehensions -/
/-- the block's own slots forgotten -/
def wipeD (ρ : Rho) : List Nat → Rho
  | [] => ρ
  | v :: vs => (wipeD ρ vs).set v none
open Classical in
noncomputable def mapL (gd : Option Nat) (all : List D) (g : MG) (t : MT) (m : ME) : List D → Rho → S → R (List D)
  | [], _, s => if gOk gd all s then .ok [] s else .bad
  | x :: xs, ρ, s => if gOk gd all s then match g x ρ s with
      | .ok ρ1 s1 => (match t ρ1 s1 with
        | .ok true s2 => (match m ρ1 s2 with
          | .ok d s3 => (match mapL gd all g t m xs ρ s3 with
            | .ok ds s4 => .ok (d :: ds) s4
            | _ => .bad)
          | _ => .bad)
        | .ok false s2 => mapL gd all g t m xs ρ s2
        | _ => .bad)
      | _ => .bad
    else .bad
noncomputable def mLc (it : MI) (g : MG) (t : MT) (m : ME) (own : List Nat) : ME := fun ρ s => (it ρ s).bind fun p s1 => match mapL p.2 p.1 g t m p.1 (wipeD ρ own) s1 with
  | .ok ds s2 => if p.1.length ≤ sizeLine then .ok (.lst ds) s2 else .bad
  | _ => .bad
def tAll : MT := fun _ s => .ok true s
theorem RelE.wipe {K : PySem.W.Frag} {w : World} {cl : Cl} {ι : List Addr} {H : Hp} {ρ : Rho} {σ : L2.St} (e : RelE K w cl ι H ρ σ) : ∀ own : List Nat, RelE K w cl ι H (wipeD ρ own) (L2.wipe σ own)
  | [] => e
  | v :: vs => by
    have ih := RelE.wipe e vs
    unfold wipeD L2.wipe
    refine ⟨by rw [List.length_set, List.length_set]; exact ih.len, fun i d h => ?_⟩
    by_cases hv : v = i
    · subst hv
      by_cases hl : v < (wipeD ρ vs).length
      · rw [List.getElem?_set_self hl] at h; cases h
      · rw [List.getElem?_eq_none (by rw [List.length_set]; omega)] at h; cases h
    · rw [List.getElem?_set_ne hv] at h ⊢
      exact ih.at_ i d h
abbrev W0 : Wish := fun _ _ _ _ => False
/-- the least that M asks -/
def tOfE (K : PySem.W.Frag) (w : World) (cl : Cl) (m : ME) : TE := fun σ H Q => ∃ ρ ι s, RelE K w cl ι H ρ σ ∧ RelS K w cl ι s H ∧ PoE K w cl W0 ι H σ Q (m ρ s)
def tOfT (K : PySem.W.Frag) (w : World) (cl : Cl) (m : MT) : TT := fun σ H Q => ∃ ρ ι s, RelE K w cl ι H ρ σ ∧ RelS K w cl ι s H ∧ PoT K w cl W0 ι H σ Q (m ρ s)
structure SP1 (X : Cx) (cl : Cl) (W : Wish) (ifs : List Expr) (m : MT) : Prop where
  ex : ∃ t, PTs X ifs t ∧ ∀ σ H Q ρ ι s, RelE X.K X.w cl ι H ρ σ → RelS X.K X.w cl ι s H → PoT X.K X.w cl W ι H σ Q (m ρ s) → t σ H Q
theorem sp_nil {X : Cx} {cl : Cl} {W : Wish} : SP1 X cl W [] tAll := ⟨_, pts_nil, fun σ H Q ρ ι s _ r h => h ι H (Ext.refl _ _) r⟩
theorem sp_one {X : Cx} {cl : Cl} {W : Wish} {c : Expr} {m : MT} (h : SB X cl W c m) : SP1 X cl W [c] m := by
  obtain ⟨t, p, q⟩ := h.ex
  exact ⟨_, pts_one p, q⟩
theorem SE.pe {X : Cx} {cl : Cl} {e : Expr} {m : ME} (h : SE X cl W0 e m) : PE X e (tOfE X.K X.w cl m) := by
  obtain ⟨t, p, q⟩ := h.ex
  exact ⟨fun pins s σ H Q I ⟨ρ, ι, s0, en, r, hh⟩ => p.run pins s σ H Q I (q σ H Q ρ ι s0 en r hh)⟩
theorem SP1.pe {X : Cx} {cl : Cl} {e : List Expr} {m : MT} (h : SP1 X cl W0 e m) : PTs X e (tOfT X.K X.w cl m) := by
  obtain ⟨t, p, q⟩ := h.ex
  exact ⟨fun pins s σ H Q I ⟨ρ, ι, s0, en, r, hh⟩ => p.run pins s σ H Q I (q σ H Q ρ ι s0 en r hh)⟩
/-- a target of a comprehension, over data -/
inductive OwnG (K : PySem.W.Frag) : TG → MG → List Nat → Prop
  | name (i : Nat) (own : List Nat) (h : i ∈ own) : OwnG K (gName i) (gSlot i) own
  | two (i j : Nat) (own : List Nat) (h : i ∈ own) (h2 : j ∈ own) : OwnG K (gTup K 2 (gCons (gName i) (gCons (gName j) gNil))) (gTupD 2 (gsCons (gSlot i) (gsCons (gSlot j) gsNil))) own
theorem wipe_get {σ : L2.St} {i : Nat} : ∀ {own : List Nat}, (L2.wipe σ own)[i]? = if i ∈ own ∧ i < σ.length then some none else σ[i]?
  | [] => by simp [L2.wipe]
  | v :: vs => by
    unfold L2.wipe
    by_cases hv : v = i
    · subst hv
      by_cases hl : v < σ.length
      · rw [List.getElem?_set_self (by rw [wipe_length]; exact hl), if_pos ⟨List.mem_cons_self, hl⟩]
      · rw [List.getElem?_eq_none (by rw [List.length_set, wipe_length]; omega), if_neg (fun z => hl z.2), List.getElem?_eq_none (by omega)]
    · rw [List.getElem?_set_ne hv, wipe_get (own := vs)]
      have : (i ∈ v :: vs) ↔ (i ∈ vs) := by simp [Ne.symm hv]
      simp only [this]
theorem wipe_set {σ : L2.St} {i : Nat} {x : Option V} {own : List Nat} (h : i ∈ own) : L2.wipe (σ.set i x) own = L2.wipe σ own := by
  apply List.ext_getElem?
  intro j
  rw [wipe_get, wipe_get, List.length_set]
  by_cases hj : i = j
  · subst hj
    by_cases hl : i < σ.length
    · rw [if_pos ⟨h, hl⟩, if_pos ⟨h, hl⟩]
    · rw [if_neg (fun z => hl z.2), if_neg (fun z => hl z.2), List.getElem?_eq_none (by rw [List.length_set]; omega), List.getElem?_eq_none (by omega)]
  · rw [List.getElem?_set_ne hj]
theorem wipe_wipe {σ : L2.St} {own : List Nat} : L2.wipe (L2.wipe σ own) own = L2.wipe σ own := by
  apply List.ext_getElem?
  intro j
  rw [wipe_get, wipe_get, wipe_length]
  by_cases h : j ∈ own ∧ j < σ.length
  · rw [if_pos h, if_pos h]
  · rw [if_neg h, if_neg h]
theorem OwnG.run {K : PySem.W.Frag} {w : World} {cl : Cl} {tg : TG} {g : MG} {own : List Nat} (G : OwnG K tg g own) {z : Option Addr} {ι : List Addr} {H : Hp} {s s1 : S} {ρ ρ1 : Rho} {σ : L2.St} {d : D} {v : V} {Q : L2.St → Hp → Prop}
    (en : RelE K w cl ι (hd z H) ρ σ) (rd : RelD K w cl ι (hd z H) d v) (e : g d ρ s = .ok ρ1 s1) (h : s1 = s → ∀ σ', RelE K w cl ι (hd z H) ρ1 σ' → L2.wipe σ' own = L2.wipe σ own → Q σ' H) : tg v σ H Q := by
  cases G with
  | name i _ hi =>
    cases e
    exact h rfl _ (en.set rd) (wipe_set hi)
  | two i j _ hi hj =>
    unfold gTupD at e
    cases rd with
    | @tup ds a vs ht rt =>
      simp only at e
      split at e
      · rename_i hl
        match ds, hl with
        | [d1, d2], _ =>
          obtain ⟨v1, v2, rfl, q1, q2⟩ := rt.two
          cases e
          refine ⟨a, _, rfl, ht.act, rfl, v1, [v2], rfl, v2, [], rfl, rfl, ?_⟩
          exact h rfl _ ((en.set q1).set q2) (by rw [wipe_set hj, wipe_set hi])
      · cases e
    | _ => cases e
section
variable {K : PySem.W.Frag} {w : World} {cl : Cl} {ι : List Addr} {H : Hp} {D : Addr}
theorem hd_upd {H : Hp} {D : Addr} {o : HO} : hd (some D) (upd H D o) = hd (some D) H := by
  funext b
  by_cases hb : b = D
  · rw [hb, hd_self, hd_self]
  · rw [hd_ne hb, hd_ne hb, upd_ne hb]
theorem hd_id {H : Hp} {D : Addr} (h : H D = none) : hd (some D) H = H := by
  funext b
  by_cases hb : b = D
  · rw [hb, hd_self, h]
  · rw [hd_ne hb]
theorem hd_noneD {a D : Addr} {H : Hp} (e : H a = none) : hd (some D) H a = none := by
  show (if a = D then none else H a) = none
  rw [e, ite_self]
theorem Ext.unhide (h : H D ≠ none) : Ext ι (hd (some D) H) ι H := ⟨⟨[], (List.append_nil ι).symm⟩, fun a o e n => ⟨hd_some e, n⟩, fun a e => hd_noneD e⟩
theorem RelS.unhide {s : S} (r : RelS K w cl ι s (hd (some D) H)) (h : H D ≠ none) : RelS K w cl ι s H :=
  ⟨r.len, r.nd, fun n o e => let ⟨a, ea, ro⟩ := r.at_ n o e; ⟨a, ea, by
    cases o with
    | lst ds => obtain ⟨us, h1, h2⟩ := ro; exact ⟨us, hd_some h1, h2.ext (Ext.unhide h)⟩
    | ins c fs => obtain ⟨A, dx, us, hc, hk, h1, h2⟩ := ro; exact ⟨A, dx, us, hc, hk, hd_some h1, h2.ext (Ext.unhide h)⟩
    | dK kvs => obtain ⟨us, h1, hk, h2⟩ := ro; exact ⟨us, hd_some h1, hk, h2.ext (Ext.unhide h)⟩⟩⟩
end
/-- the reading of a comprehension -/
theorem lc_read {X : Cx} {cl : Cl} {W : Wish} {it : MI} {g : MG} {mt : MT} {m : ME} {tg' : TG} {wi : TI} {ow : List Nat} (G : OwnG X.K tg' g ow)
    (q1 : ∀ (σ : L2.St) (H : Hp) (Q : It → Hp → Prop) ρ ι s, RelE X.K X.w cl ι H ρ σ → RelS X.K X.w cl ι s H →
    (match it ρ s with
      | .ok p s1 => ∀ ι' H' J, Ext ι H ι' H' → RelS X.K X.w cl ι' s1 H' → ItOk X.K X.w cl p J ι' H' → Q J H'
      | .exc x s1 => ∀ ι' H' c d, Ext ι H ι' H' → RelS X.K X.w cl ι' s1 H' → RelX X.K X.w cl ι' H' x c d → W c d σ H'
      | .bad => False) → wi σ H Q)
    {σ : L2.St} {H : Hp} {Q : VK} {ρ : Rho} {ι : List Addr} {s : S} (en : RelE X.K X.w cl ι H ρ σ) (r : RelS X.K X.w cl ι s H) (h : PoE X.K X.w cl W ι H σ Q (mLc it g mt m ow ρ s)) :
    tLc wi tg' (fun σ H Q => ∃ D, tHideT D (tOfT X.K X.w cl mt) σ H Q) (fun σ H Q => ∃ D, tHide D (tOfE X.K X.w cl m) σ H Q) ow σ H Q := by
  unfold mLc at h
  refine q1 σ H _ ρ ι s en r ?_
  cases e1 : it ρ s with
  | bad => rw [e1] at h; exact h
  | exc x s1 => rw [e1] at h; exact h
  | ok p s1 =>
  rw [e1] at h
  intro ι1 H1 J x1 r1 iok D hD
  simp only [R.bind] at h
  cases e2 : mapL p.2 p.1 g mt m p.1 (wipeD ρ ow) s1 with
  | bad => rw [e2] at h; exact False.elim h
  | exc x s2 => rw [e2] at h; exact False.elim h
  | ok ds s2 =>
  rw [e2] at h
  simp only at h
  by_cases hlen : p.1.length ≤ sizeLine
  rotate_left
  · rw [if_neg hlen] at h; exact False.elim h
  rw [if_pos hlen] at h
  have hid1 : hd (some D) (upd H1 D (.lst [])) = H1 := by rw [hd_upd, hd_id hD]
  -- what is made so far stands at D, hidden from the data; what is left gives the rest
  refine ⟨fun i k H' => k = p.1.length - i ∧ i ≤ p.1.length ∧ ∃ ι' s' acc vs ds', Ext ι1 H1 ι' (hd (some D) H') ∧ RelS X.K X.w cl ι' s' (hd (some D) H') ∧ H' D = some (.lst vs) ∧ RelDs X.K X.w cl ι' (hd (some D) H') acc vs ∧ acc.length ≤ i ∧
      mapL p.2 p.1 g mt m (p.1.drop i) (wipeD ρ ow) s' = .ok ds' s2 ∧ acc ++ ds' = ds,
    ⟨p.1.length, rfl, Nat.zero_le _, ι1, s1, [], [], ds, by rw [hid1]; exact Ext.refl _ _, by rw [hid1]; exact r1, upd_same, .nil, Nat.le_refl _, e2, rfl⟩, ?_⟩
  rintro i k H2 ⟨rfl, hi2, ι2, s3, acc, vs, ds', x2, r2, hD2, rv, hacc, em, ed⟩
  have nD2 : ∀ a, some D = some a → H2 a ≠ none := fun a ea => by cases ea; rw [hD2]; exact fun z => nomatch z
  by_cases hlt : i < p.1.length
  · have edr : p.1.drop i = p.1[i] :: p.1.drop (i + 1) := List.drop_eq_getElem_cons hlt
    rw [edr] at em
    unfold mapL at em
    by_cases hg2 : gOk p.2 p.1 s3
    rotate_left
    · rw [if_neg hg2] at em; cases em
    rw [if_pos hg2] at em
    obtain ⟨go, yl⟩ := (iok (some D) i ι2 H2 s3 nD2 x2 r2 hg2).1 hlt
    refine .inr ⟨go, fun H' => i + 1 ≤ p.1.length ∧ ∃ ι' s' acc vs ds', Ext ι1 H1 ι' (hd (some D) H') ∧ RelS X.K X.w cl ι' s' (hd (some D) H') ∧ H' D = some (.lst vs) ∧ RelDs X.K X.w cl ι' (hd (some D) H') acc vs ∧ acc.length ≤ i + 1 ∧
      mapL p.2 p.1 g mt m (p.1.drop (i + 1)) (wipeD ρ ow) s' = .ok ds' s2 ∧ acc ++ ds' = ds, fun H' ⟨h5, h6⟩ => ⟨p.1.length - (i + 1), by omega, rfl, h5, h6⟩, fun x H3 y => ?_⟩
    obtain ⟨sameD, d, ed2, x3, r3, rd⟩ := yl x H3 y
    rw [List.getElem?_eq_getElem hlt] at ed2
    cases ed2
    have hD3 : H3 D = some (.lst vs) := by rw [sameD D rfl]; exact hD2
    have en3 : RelE X.K X.w cl ι2 (hd (some D) H3) (wipeD ρ ow) (L2.wipe σ ow) := (((en.ext x1).ext x2).ext x3).wipe _
    cases e4 : g p.1[i] (wipeD ρ ow) s3 with
    | bad => rw [e4] at em; cases em
    | exc x s4 => rw [e4] at em; cases em
    | ok ρ4 s4 =>
    rw [e4] at em
    simp only at em
    refine G.run (z := some D) en3 rd e4 fun es σ4 en4 hw => ⟨by rw [hw, wipe_wipe], D, vs, hD3, ρ4, ι2, s4, en4, by rw [es]; exact r3, ?_⟩
    cases e5 : mt ρ4 s4 with
    | bad => rw [e5] at em; cases em
    | exc x s5 => rw [e5] at em; cases em
    | ok b s5 =>
    rw [e5] at em
    intro ι5 H5 x5 r5 hn5
    have h5 : hd (some D) (upd H5 D (.lst vs)) = H5 := by rw [hd_upd, hd_id hn5]
    cases b with
    | true =>
      simp only [if_true] at em ⊢
      refine ⟨D, vs, upd_same, ρ4, ι5, s5, by rw [h5]; exact en4.ext x5, by rw [h5]; exact r5, ?_⟩
      cases e6 : m ρ4 s5 with
      | bad => rw [e6] at em; cases em
      | exc x s6 => rw [e6] at em; cases em
      | ok d6 s6 =>
      rw [e6] at em
      intro ι6 H6 v6 x6 r6 rd6 hn6
      rw [h5] at x6
      simp only at em
      cases e7 : mapL p.2 p.1 g mt m (p.1.drop (i + 1)) (wipeD ρ ow) s6 with
      | bad => rw [e7] at em; cases em
      | exc x s7 => rw [e7] at em; cases em
      | ok ds7 s7 =>
      rw [e7] at em
      cases em
      have hvl : vs.length = acc.length := rv.length.symm
      have h6 : hd (some D) (upd (upd H6 D (.lst vs)) D (.lst (vs ++ [v6]))) = H6 := by rw [hd_upd, hd_upd, hd_id hn6]
      refine ⟨vs, upd_same, by omega, hlt, ι6, s6, acc ++ [d6], vs ++ [v6], ds7, ?_, ?_, upd_same, ?_, ?_, e7, by rw [List.append_assoc]; exact ed⟩
      · rw [h6]; exact ((x2.trans x3).trans x5).trans x6
      · rw [h6]; exact r6
      · rw [h6]; exact (((rv.ext x3).ext x5).ext x6).append (.cons rd6 .nil)
      · rw [List.length_append]; exact Nat.succ_le_succ hacc
    | false =>
      simp only [Bool.false_eq_true, if_false] at em ⊢
      refine ⟨hlt, ι5, s5, acc, vs, ds', ?_, ?_, upd_same, ?_, by omega, em, ed⟩
      · rw [h5]; exact (x2.trans x3).trans x5
      · rw [h5]; exact r5
      · rw [h5]; exact (rv.ext x3).ext x5
  · have e : p.1.drop i = [] := List.drop_eq_nil_of_le (by omega)
    rw [e] at em
    unfold mapL at em
    by_cases hg2 : gOk p.2 p.1 s3
    · rw [if_pos hg2] at em
      cases em
      rw [List.append_nil] at ed
      subst ed
      have nD : H2 D ≠ none := by rw [hD2]; exact fun z => nomatch z
      refine .inl ⟨(iok (some D) i ι2 H2 _ nD2 x2 r2 hg2).2 (by omega), ?_⟩
      have rs2 := r2.unhide nD
      have nDi : D ∉ ι2 := r2.notin hd_self
      refine h ι2 H2 (.ref D) ((x1.trans x2).trans (Ext.unhide nD)) rs2 (.lst (.inl ⟨.inl hD2, nDi⟩) (rv.ext (Ext.unhide nD)))
    · rw [if_neg hg2] at em; cases em
theorem se_lc {X : Cx} {cl : Cl} {W : Wish} {elt tg iter : Expr} {ifs : List Expr} {scope : Scope} {own : List (Str × Nat)} {pos : Pos} {it : MI} {g : MG} {mt : MT} {m : ME} {tg' : TG}
    (hc : X.calm = true) (hN : X.N.Nodup) (hi : SI X cl W tg iter it) (ok : BlkOk X.N X.env.scope scope own) (G : OwnG X.K tg' g (own.map (·.2)))
    (hg : ∀ (s : Shared) (H : Hp) (C : Addr) (cs : List (Str × Addr)) (fp : List Addr), PG (X.blk s H scope (compEnvC scope cs C X.env) fp) tg tg')
    (ht : ∀ (s : Shared) (H : Hp) (C : Addr) (cs : List (Str × Addr)) (fp : List Addr), SP1 (X.blk s H scope (compEnvC scope cs C X.env) fp) cl W0 ifs mt)
    (he : ∀ (s : Shared) (H : Hp) (C : Addr) (cs : List (Str × Addr)) (fp : List Addr), SE (X.blk s H scope (compEnvC scope cs C X.env) fp) cl W0 elt m)
    (hs : ∀ x, foldedSetIterable iter X.env x = pure x := by intro _; rfl) : SE X cl W (.ListComp elt [⟨tg, iter, ifs, 0⟩] scope pos) (mLc it g mt m (own.map (·.2))) := by
  obtain ⟨wi, p1, q1⟩ := hi.ex
  have ht' : ∀ (s : Shared) (H : Hp) (C : Addr) (cs : List (Str × Addr)) (fp : List Addr), PTs (X.blk s H scope (compEnvC scope cs C X.env) fp) ifs (fun σ H Q => ∃ D, tHideT D (tOfT X.K X.w cl mt) σ H Q) := fun s H C cs fp => pts_hideA (SP1.pe (ht s H C cs fp))
  have he' : ∀ (s : Shared) (H : Hp) (C : Addr) (cs : List (Str × Addr)) (fp : List Addr), PE (X.blk s H scope (compEnvC scope cs C X.env) fp) elt (fun σ H Q => ∃ D, tHide D (tOfE X.K X.w cl m) σ H Q) := fun s H C cs fp => pe_hideA (SE.pe (he s H C cs fp))
  exact ⟨_, pe_lc hc hN p1 ok hg ht' he' hs, fun σ H Q ρ ι s en r h => lc_read (W := W) G q1 en r h⟩
/-- y = [..] on one line -/
theorem ss_setLc {X : Cx} {cl : Cl} {W : Wish} {y : Str} {py spos : Pos} {elt tg iter : Expr} {ifs : List Expr} {scope : Scope} {own : List (Str × Nat)} {pos : Pos} {it : MI} {g : MG} {mt : MT} {m : ME} {tg' : TG} (i : Nat)
    (hc : X.calm = true) (hN : X.N.Nodup) (hi : SI X cl W tg iter it) (ok : BlkOk X.N X.env.scope scope own) (G : OwnG X.K tg' g (own.map (·.2)))
    (hg : ∀ (s : Shared) (H : Hp) (C : Addr) (cs : List (Str × Addr)) (fp : List Addr), PG (X.blk s H scope (compEnvC scope cs C X.env) fp) tg tg')
    (ht : ∀ (s : Shared) (H : Hp) (C : Addr) (cs : List (Str × Addr)) (fp : List Addr), SP1 (X.blk s H scope (compEnvC scope cs C X.env) fp) cl W0 ifs mt)
    (he : ∀ (s : Shared) (H : Hp) (C : Addr) (cs : List (Str × Addr)) (fp : List Addr), SE (X.blk s H scope (compEnvC scope cs C X.env) fp) cl W0 elt m)
    (hsw : swapsWith (.ListComp elt [⟨tg, iter, ifs, 0⟩] scope pos) (some (.Name y py)) spos.line X.env = pure true)
    (hy : X.N[i]? = some y := by rfl) (hyl : X.env.scope.names.lookup y = some .local := by rfl)
    (hs : ∀ x, foldedSetIterable iter X.env x = pure x := by intro _; rfl) : SS X cl W (.Assign [.Name y py] (.ListComp elt [⟨tg, iter, ifs, 0⟩] scope pos) spos) (sSet i (mLc it g mt m (own.map (·.2)))) := by
  obtain ⟨wi, p1, q1⟩ := hi.ex
  have ht' : ∀ (s : Shared) (H : Hp) (C : Addr) (cs : List (Str × Addr)) (fp : List Addr), PTs (X.blk s H scope (compEnvC scope cs C X.env) fp) ifs (fun σ H Q => ∃ D, tHideT D (tOfT X.K X.w cl mt) σ H Q) := fun s H C cs fp => pts_hideA (SP1.pe (ht s H C cs fp))
  have he' : ∀ (s : Shared) (H : Hp) (C : Addr) (cs : List (Str × Addr)) (fp : List Addr), PE (X.blk s H scope (compEnvC scope cs C X.env) fp) elt (fun σ H Q => ∃ D, tHide D (tOfE X.K X.w cl m) σ H Q) := fun s H C cs fp => pe_hideA (SE.pe (he s H C cs fp))
  refine ⟨_, ps_setLc hc hN hy hyl hsw p1 ok hg ht' he' hs, fun Dn σ H ρ ι s en r h => ?_⟩
  refine lc_read (W := W) G q1 en r (PoS.stepE en h fun d s1 ι1 H1 v e1 x1 r1 d1 h1 => h1 ι1 H1 _ (Ext.refl _ _) r1 ((en.ext x1).set d1))
end Pm
namespace Pm
open PySem PySem.Spec PyProof.Rows L2

/-! ### defs -/
/-- a def over data: n parameters, tot slots -/
def mkFn (n tot : Nat) (m : MS) (ds : List D) (s : S) : R D := if ds.length = n then (match m (ds.map some ++ List.replicate (tot - n) none) s with
  | .ok (.rt d) s1 => .ok d s1
  | .ok (.nx _) s1 => .ok .non s1
  | .exc x _ s1 => .exc x s1
  | _ => .bad) else .bad
def spD (K : PySem.W.Frag) (w : World) (cl : Cl) (n : Nat) (F : List D → S → R D) : Sp := fun vs H Q E =>
  vs.length = n ∧ ∃ ι s ds, RelS K w cl ι s H ∧ RelDs K w cl ι H ds vs ∧ PoE K w cl (fun c d _ H' => E c d H') ι H [] Q (F ds s)
section
variable {P : Program} {w : World} {K : PySem.W.Frag} {mg : Str → Option Value} {base : Heap} {cl : Cl}
theorem start_rel {ι : List Addr} {H : Hp} {tot : Nat} {N : List Str} (hN : N.length = tot) : ∀ {ds : List D} {vs : List V} {n : Nat}, n = ds.length → RelDs K w cl ι H ds vs → RelE K w cl ι H (ds.map some ++ List.replicate (tot - n) none) (L2.start N vs) := by
  intro ds vs n hn r
  have hl := r.length
  refine ⟨?_, fun i d h => ?_⟩
  · unfold L2.start
    simp only [List.length_append, List.length_map, List.length_replicate]
    omega
  · unfold L2.start
    by_cases hi : i < ds.length
    · rw [List.getElem?_append_left (by rw [List.length_map]; exact hi), List.getElem?_map] at h
      obtain ⟨e, he, h2⟩ := Option.map_eq_some_iff.mp h
      cases h2
      obtain ⟨v, hv, rv⟩ := r.get he
      exact ⟨v, by rw [List.getElem?_append_left (by rw [List.length_map]; omega), List.getElem?_map, hv]; rfl, rv⟩
    · rw [List.getElem?_append_right (by rw [List.length_map]; omega), List.getElem?_replicate] at h
      split at h <;> cases h
/-- a def keeps: what M gives -/
theorem fn_ok {x qual : Str} {st : Stmt} {f : Addr} {fd : FuncData} {N ps : List Str} {k : Nat} {m : MS} (F : Fun K x qual st f fd) (Sc : FnScope N ps (defScope st))
    (hb : ∀ (cdv : Value) (A : Around) (outer : List Env) (s : Shared) (H : Hp) (E : XK), Room k (A.deeper (envOfC qual (defScope st) s.heap.objs.size f cdv)) →
      SSs (cxOf (L2.CX P w) P w K mg base N qual (defScope st) f cdv A outer s H E) cl (fun c d _ H' => E c d H') (defBody st) m) :
    FnOk P w K mg base (L2.CX P w) (k + 1) f fd ps (spD K w cl ps.length (mkFn ps.length N.length m)) := by
  refine F.okX Sc (fun vs H Q E h => h.1) fun cdv A outer s H vs Q E hr ⟨hl, ι, s0, ds, rs, rd, h⟩ => ?_
  obtain ⟨t, p, q⟩ := (hb cdv A outer s H E hr).ex
  refine ⟨t, p, ?_⟩
  have hdl : ds.length = ps.length := by rw [rd.length]; exact hl
  unfold mkFn at h
  rw [if_pos hdl] at h
  refine q _ (L2.start N vs) H _ ι s0 (start_rel rfl hdl.symm rd) rs ?_
  cases hm : m (ds.map some ++ List.replicate (N.length - ps.length) none) s0 with
  | bad => rw [hm] at h; exact h
  | exc x ρ1 s1 => rw [hm] at h; exact fun ι2 H2 σ2 c d x2 r2 _ rx => h ι2 H2 c d x2 r2 rx
  | ok c1 s1 =>
    rw [hm] at h
    cases c1 with
    | nx ρ1 => exact fun ι2 H2 σ2 x2 r2 _ => h ι2 H2 .non x2 r2 .non
    | rt d => exact h
    | bk ρ1 => exact False.elim h
    | ct ρ1 => exact False.elim h
theorem fn_imp {f : Addr} {fd : FuncData} {ps : List Str} {k n : Nat} {F G : List D → S → R D} (h : FnOk P w K mg base (L2.CX P w) k f fd ps (spD K w cl n F))
    (hg : ∀ (E : XK) (ι : List Addr) (H : Hp) (Q : VK) ds s, RelS K w cl ι s H → PoE K w cl (fun c d _ H' => E c d H') ι H [] Q (G ds s) → PoE K w cl (fun c d _ H' => E c d H') ι H [] Q (F ds s)) : FnOk P w K mg base (L2.CX P w) k f fd ps (spD K w cl n G) :=
  h.imp fun vs H Q E ⟨hl, ι, s, ds, rs, rd, q⟩ => ⟨hl, ι, s, ds, rs, rd, hg E ι H Q ds s rs q⟩
end
section
variable {X : Cx} {cl : Cl} {W : Wish} {pos p : Pos} {x : Str} {e : Expr} {es : List Expr} {ms : MA} {f : Addr} {fd : FuncData} {ps : List Str} {k n : Nat} {G : List D → S → R D}
theorem call_po {ι : List Addr} {H : Hp} {σ : L2.St} {Q : VK} {ds : List D} {vs : List V} {s : S} (hn : ∀ ds s, ds.length ≠ n → G ds s = .bad) (r : RelS X.K X.w cl ι s H) (rd : RelDs X.K X.w cl ι H ds vs) (h : PoE X.K X.w cl W ι H σ Q (G ds s)) : spD X.K X.w cl n G vs H Q (WE W σ) := by
  refine ⟨?_, ι, s, ds, r, rd, ?_⟩
  · by_cases hl : ds.length = n
    · rw [← rd.length]; exact hl
    · rw [hn ds s hl] at h; exact False.elim h
  · cases hg : G ds s with
    | ok d s1 => rw [hg] at h; exact h
    | exc x s1 => rw [hg] at h; exact h
    | bad => rw [hg] at h; exact h
/-- f(..) -/
theorem se_call (tk : Takes X W) (F : FnOk X.prog X.w X.K X.mg X.base (L2.CX X.prog X.w) k f fd ps (spD X.K X.w cl n G)) (hn : ∀ ds s, ds.length ≠ n → G ds s = .bad) (hr : Room k X.A) (hg : Gl X x) (hm : X.mg x = some (.ref f)) (hk : PySem.W.keepIn X.K (.ref f) = true) (hb : Binds X.K fd ps [])
    (ha : SA X cl W (e :: es) ms) (hdb : (x == ("__debug__" : Str)) = false := by decide) (he : starEach (e :: es) X.env = (false, eval e X.env) :: starEach es X.env := by rfl) (hpl : (backTo pos (starEach es X.env)).any (·.1) = false := by rfl) :
    SE X cl W (.Call (.Name x p) (e :: es) [] pos) (mN G ms) := by
  obtain ⟨ta, pa, qa⟩ := ha.ex
  refine ⟨_, pe_callS (E := WE W) F hr hg hm hk hb (fun σ => passAt tk σ) pa hdb he hpl, fun σ H Q ρ ι s en r h => ?_⟩
  exact qa σ H _ ρ ι s en r (PoE.stepA h fun ds s1 ι1 H1 vs e1 x1 r1 d1 h1 => call_po hn r1 d1 h1)
end

/-! ### finishing: what a def made and hands back is not changed any more -/
mutual
def ltD (n : Nat) : D → Bool
  | .ref m => decide (m < n)
  | .tup xs => ltDs n xs
  | .lst xs => ltDs n xs
  | .ins _ fs => ltFs n fs
  | .dic kvs => ltFs n kvs
  | .exn _ _ _ => false
  | _ => true
def ltDs (n : Nat) : List D → Bool
  | [] => true
  | x :: xs => ltD n x && ltDs n xs
def ltFs (n : Nat) : List (Str × D) → Bool
  | [] => true
  | (_, x) :: xs => ltD n x && ltFs n xs
end
def ltO (n : Nat) : O → Bool
  | .lst xs => ltDs n xs
  | .ins _ fs => ltFs n fs
  | .dK kvs => ltDs n (kvs.map (·.2))
section
variable {K : PySem.W.Frag} {w : World} {cl : Cl} {e : Option (Nat × Addr × Addr × Addr)} {ι : List Addr} {H : Hp} {n : Nat}
theorem notin_take {a : Addr} (h : a ∉ ι) : a ∉ ι.take n := fun z => h (List.mem_of_mem_take z)
mutual
theorem ltD_relX : ∀ {d : D} {v : V}, RelD K w cl ι H d v → ltD n d = true → RelD K w ⟨cl.of, e⟩ (ι.take n) H d v
  | _, _, .non, _ => .non
  | _, _, .bl b, _ => .bl b
  | _, _, .int i, _ => .int i
  | _, _, .str y, _ => .str y
  | _, _, .tup h r, l => .tup (by
      rcases h with ⟨h, k⟩ | h
      · exact .inl ⟨h, notin_take k⟩
      · exact .inr h) (ltDs_relX r (by simpa [ltD] using l))
  | _, _, .lst h r, l => .lst (by
      rcases h with ⟨h, k⟩ | h
      · exact .inl ⟨h, notin_take k⟩
      · exact .inr h) (ltDs_relX r (by simpa [ltD] using l))
  | _, _, .ref h, l => .ref (by
      rw [List.getElem?_take, if_pos (by simpa [ltD] using l)]
      exact h)
  | _, _, .ins hc hk h ha r, l => .ins hc hk h (notin_take ha) (ltFs_relX r (by simpa [ltD] using l))
  | _, _, .glo a, _ => .glo a
  | _, _, .ty m, _ => .ty m
  | _, _, .dic h r, l => .dic h (ltFs_relX r (by simpa [ltD] using l))
  | _, _, .exn _ _ _ _ _, l => by simp [ltD] at l
  | _, _, .old _, l => by simp [ltD] at l
theorem ltDs_relX : ∀ {ds : List D} {vs : List V}, RelDs K w cl ι H ds vs → ltDs n ds = true → RelDs K w ⟨cl.of, e⟩ (ι.take n) H ds vs
  | _, _, .nil, _ => .nil
  | _, _, .cons r t, l => .cons (ltD_relX r (by simp only [ltDs, Bool.and_eq_true] at l; exact l.1)) (ltDs_relX t (by simp only [ltDs, Bool.and_eq_true] at l; exact l.2))
theorem ltFs_relX : ∀ {ds : List (Str × D)} {vs : List (Str × V)}, RelFs K w cl ι H ds vs → ltFs n ds = true → RelFs K w ⟨cl.of, e⟩ (ι.take n) H ds vs
  | _, _, .nil, _ => .nil
  | _, _, .cons r t, l => .cons (ltD_relX r (by simp only [ltFs, Bool.and_eq_true] at l; exact l.1)) (ltFs_relX t (by simp only [ltFs, Bool.and_eq_true] at l; exact l.2))
end
theorem ltD_rel {d : D} {v : V} (h : RelD K w cl ι H d v) (l : ltD n d = true) : RelD K w cl (ι.take n) H d v := ltD_relX (e := cl.ex) h l
theorem ltDs_rel {ds : List D} {vs : List V} (h : RelDs K w cl ι H ds vs) (l : ltDs n ds = true) : RelDs K w cl (ι.take n) H ds vs := ltDs_relX (e := cl.ex) h l
theorem ltFs_rel {ds : List (Str × D)} {vs : List (Str × V)} (h : RelFs K w cl ι H ds vs) (l : ltFs n ds = true) : RelFs K w cl (ι.take n) H ds vs := ltFs_relX (e := cl.ex) h l
end
def allD (f : D → Option D) : List D → Option (List D)
  | [] => some []
  | x :: xs => match f x, allD f xs with
    | some y, some ys => some (y :: ys)
    | _, _ => none
def allF (f : D → Option D) : List (Str × D) → Option (List (Str × D))
  | [] => some []
  | (g, x) :: xs => match f x, allF f xs with
    | some y, some ys => some ((g, y) :: ys)
    | _, _ => none
/-- the things from n on become data -/
def frzD (s : S) (n : Nat) : Nat → D → Option D
  | 0, _ => none
  | k + 1, .ref m => if m < n then some (.ref m) else match s[m]? with
    | some (.lst xs) => (allD (frzD s n k) xs).map .lst
    | some (.ins c fs) => (allF (frzD s n k) fs).map (.ins c)
    | some (.dK _) => none
    | none => none
  | k + 1, .tup xs => (allD (frzD s n k) xs).map .tup
  | k + 1, .lst xs => (allD (frzD s n k) xs).map .lst
  | k + 1, .ins c fs => (allF (frzD s n k) fs).map (.ins c)
  | _ + 1, .dic kvs => if ltFs n kvs then some (.dic kvs) else none
  | _ + 1, .exn _ _ _ => none
  | _ + 1, d => some d
def stOk (n : Nat) (s : S) : Bool := (s.take n).all (ltO n)
def frzR (n : Nat) : R D → R D
  | .ok d s => match frzD s n 20 d with
    | some d' => if stOk n s = true then .ok d' (s.take n) else .bad
    | none => .bad
  | .exc x s => match frzD s n 20 x with
    | some x' => if stOk n s = true then .exc x' (s.take n) else .bad
    | none => .bad
  | .bad => .bad
def mkFz (F : List D → S → R D) (ds : List D) (s : S) : R D := frzR s.length (F ds s)
section
variable {K : PySem.W.Frag} {w : World} {cl : Cl} {ι : List Addr} {H : Hp} {n : Nat} {s : S}
theorem allD_rel {f : D → Option D} (hf : ∀ d d' v, f d = some d' → RelD K w cl ι H d v → RelD K w cl (ι.take n) H d' v) : ∀ {xs ys : List D} {vs : List V}, allD f xs = some ys → RelDs K w cl ι H xs vs → RelDs K w cl (ι.take n) H ys vs
  | [], ys, _, e, .nil => by cases e; exact .nil
  | x :: xs, ys, _, e, .cons r t => by
    simp only [allD] at e
    split at e
    · rename_i p qs e1 e2
      cases e
      exact .cons (hf _ _ _ e1 r) (allD_rel hf e2 t)
    · cases e
theorem allF_rel {f : D → Option D} (hf : ∀ d d' v, f d = some d' → RelD K w cl ι H d v → RelD K w cl (ι.take n) H d' v) : ∀ {xs ys : List (Str × D)} {vs : List (Str × V)}, allF f xs = some ys → RelFs K w cl ι H xs vs → RelFs K w cl (ι.take n) H ys vs
  | [], ys, _, e, .nil => by cases e; exact .nil
  | (g, x) :: xs, ys, _, e, .cons r t => by
    simp only [allF] at e
    split at e
    · rename_i p qs e1 e2
      cases e
      exact .cons (hf _ _ _ e1 r) (allF_rel hf e2 t)
    · cases e
theorem frzD_rel (rs : RelS K w cl ι s H) : ∀ (k : Nat) (d d' : D) (v : V), frzD s n k d = some d' → RelD K w cl ι H d v → RelD K w cl (ι.take n) H d' v
  | 0, _, _, _, e, _ => by cases e
  | k + 1, d, d', v, e, r => by
    have ih := frzD_rel rs k
    have seqs : ∀ {T : Prop} {a : Addr}, (T ∧ a ∉ ι) → T ∧ a ∉ ι.take n := fun h => ⟨h.1, notin_take h.2⟩
    cases r <;> simp only [frzD] at e
    · cases e; exact .non
    · cases e; exact .bl _
    · cases e; exact .int _
    · cases e; exact .str _
    · rename_i h r
      obtain ⟨ys, e1, rfl⟩ := Option.map_eq_some_iff.mp e
      exact .tup (h.imp seqs id) (allD_rel ih e1 r)
    · rename_i h r
      obtain ⟨ys, e1, rfl⟩ := Option.map_eq_some_iff.mp e
      exact .lst (h.imp seqs id) (allD_rel ih e1 r)
    · rename_i m a hm
      by_cases hmn : m < n
      · rw [if_pos hmn] at e
        cases e
        exact .ref (by rw [List.getElem?_take, if_pos hmn]; exact hm)
      · rw [if_neg hmn] at e
        have na : a ∉ ι.take n := fun z => by
          obtain ⟨j, hj⟩ := List.getElem?_of_mem z
          rw [List.getElem?_take] at hj
          split at hj
          · rename_i hjn
            obtain ⟨h1, e1⟩ := List.getElem?_eq_some_iff.mp hm
            obtain ⟨h2, e2⟩ := List.getElem?_eq_some_iff.mp hj
            have := (List.getElem_inj rs.nd).mp (e1.trans e2.symm)
            omega
          · cases hj
        cases e5 : s[m]? with
        | none => rw [e5] at e; cases e
        | some o =>
        rw [e5] at e
        obtain ⟨a', ea, ro⟩ := rs.at_ m _ e5
        rw [hm] at ea
        obtain rfl := Option.some.inj ea
        cases o with
        | lst xs =>
          obtain ⟨ys, e1, rfl⟩ := Option.map_eq_some_iff.mp e
          obtain ⟨vs, hv, rv⟩ := ro
          exact .lst (.inl ⟨.inl hv, na⟩) (allD_rel ih e1 rv)
        | ins c fs =>
          obtain ⟨ys, e1, rfl⟩ := Option.map_eq_some_iff.mp e
          obtain ⟨A, dx, vs, hc, hk, hv, rv⟩ := ro
          exact .ins hc hk hv na (allF_rel ih e1 rv)
        | dK kvs => cases e
    · rename_i hc hk h ha r
      obtain ⟨ys, e1, rfl⟩ := Option.map_eq_some_iff.mp e
      exact .ins hc hk h (notin_take ha) (allF_rel ih e1 r)
    · cases e; exact .glo _
    · cases e; exact .ty _
    · rename_i h r
      split at e
      · rename_i hl
        cases e
        exact .dic h (ltFs_rel r hl)
      · cases e
    · cases e
    · cases e
theorem stOk_rel (rs : RelS K w cl ι s H) (h : stOk n s = true) : RelS K w cl (ι.take n) (s.take n) H := by
  refine ⟨by rw [List.length_take, List.length_take, rs.len], List.Nodup.sublist (List.take_sublist n ι) rs.nd, fun m o e => ?_⟩
  have hm : o ∈ s.take n := List.mem_of_getElem? e
  have hl := List.all_eq_true.mp h o hm
  rw [List.getElem?_take] at e
  split at e
  · rename_i hmn
    obtain ⟨a, ea, ro⟩ := rs.at_ m o e
    refine ⟨a, by rw [List.getElem?_take, if_pos hmn]; exact ea, ?_⟩
    cases o with
    | lst xs => obtain ⟨vs, hv, rv⟩ := ro; exact ⟨vs, hv, ltDs_rel rv hl⟩
    | ins c fs => obtain ⟨A, dx, vs, hc, hk, hv, rv⟩ := ro; exact ⟨A, dx, vs, hc, hk, hv, ltFs_rel rv hl⟩
    | dK kvs => obtain ⟨vs, hv, hk, rv⟩ := ro; exact ⟨vs, hv, hk, ltDs_rel rv hl⟩
  · cases e
theorem Ext.cut {ι' : List Addr} {H' : Hp} (x : Ext ι H ι' H') (hn : ι.length = n) : ι'.take n = ι ∧ Ext ι H ι H' := by
  obtain ⟨l, e⟩ := x.pre
  refine ⟨by rw [e, ← hn, List.take_left], ⟨[], (List.append_nil ι).symm⟩, fun a o h na => ⟨(x.keep a o h na).1, na⟩, x.dom⟩
theorem frz_po {W : Wish} {σ : L2.St} {Q : VK} {r : R D} {ι0 : List Addr} {H0 : Hp} (hn : ι0.length = n) (h : PoE K w cl W ι0 H0 σ Q (frzR n r)) : PoE K w cl W ι0 H0 σ Q r := by
  cases r with
  | bad => exact h
  | ok d s =>
    unfold frzR at h
    simp only at h
    split at h
    · rename_i d' e
      split at h
      · rename_i hs
        intro ι1 H1 v x1 r1 rd
        obtain ⟨et, xc⟩ := x1.cut hn
        have r2 := stOk_rel r1 hs
        have d2 := frzD_rel (n := n) r1 _ _ _ _ e rd
        rw [et] at r2 d2
        exact h ι0 H1 v xc r2 d2
      · exact False.elim h
    · exact False.elim h
  | exc x s =>
    unfold frzR at h
    simp only at h
    split at h
    · rename_i d' e
      split at h
      · rename_i hs
        intro ι1 H1 c dd x1 r1 rx
        obtain ⟨et, xc⟩ := x1.cut hn
        have r2 := stOk_rel r1 hs
        rw [et] at r2
        refine h ι0 H1 c dd xc r2 ?_
        obtain ⟨C, fs, A, rfl, hc, rfl, d0, vs, rfl, hx, rf⟩ := rx
        obtain ⟨ys, e1, rfl⟩ := Option.map_eq_some_iff.mp (show (allF (frzD s n 19) fs).map (D.ins C) = some d' from e)
        have rf2 := allF_rel (n := n) (frzD_rel r1 19) e1 rf
        rw [et] at rf2
        exact ⟨C, ys, A, rfl, hc, rfl, d0, vs, rfl, hx, rf2⟩
      · exact False.elim h
    · exact False.elim h
end
theorem fn_frz {P : Program} {w : World} {K : PySem.W.Frag} {mg : Str → Option Value} {base : Heap} {cl : Cl} {f : Addr} {fd : FuncData} {ps : List Str} {k n : Nat} {F : List D → S → R D} (h : FnOk P w K mg base (L2.CX P w) k f fd ps (spD K w cl n F)) :
    FnOk P w K mg base (L2.CX P w) k f fd ps (spD K w cl n (mkFz F)) := fn_imp h fun E ι H Q ds s rs q => frz_po rs.len q
/-- an expression whose new things are finished at once -/
def mFz (m : ME) : ME := fun ρ s => frzR s.length (m ρ s)
theorem se_frz {X : Cx} {cl : Cl} {W : Wish} {e : Expr} {m : ME} (h : SE X cl W e m) : SE X cl W e (mFz m) := by
  obtain ⟨t, p, q⟩ := h.ex
  exact ⟨t, p, fun σ H Q ρ ι s en r h => q σ H Q ρ ι s en r (frz_po r.len h)⟩
/-! ### a suite that leaves nothing new behind: the store is cut at its end -/
def cutO (n : Nat) : Option D → Option D
  | some d => if ltD n d = true then some d else none
  | none => none
def cutRho (n : Nat) (ρ : Rho) : Rho := ρ.map (cutO n)
def cutS (n : Nat) : RS → RS
  | .ok (.nx ρ) s => if stOk n s = true then .ok (.nx (cutRho n ρ)) (s.take n) else .bad
  | .ok (.ct ρ) s => if stOk n s = true then .ok (.ct (cutRho n ρ)) (s.take n) else .bad
  | .ok (.bk ρ) s => if stOk n s = true then .ok (.bk (cutRho n ρ)) (s.take n) else .bad
  | r => r
def sCut (m : MS) : MS := fun ρ s => cutS s.length (m ρ s)
section
variable {K : PySem.W.Frag} {w : World} {cl : Cl} {ι : List Addr} {H : Hp} {n : Nat} {s : S}
theorem RelE.cut {ρ : Rho} {σ : L2.St} (e : RelE K w cl ι H ρ σ) : RelE K w cl (ι.take n) H (cutRho n ρ) σ := by
  refine ⟨by unfold cutRho; rw [List.length_map]; exact e.len, fun i d h => ?_⟩
  unfold cutRho at h
  rw [List.getElem?_map] at h
  obtain ⟨o, h1, h2⟩ := Option.map_eq_some_iff.mp h
  cases o with
  | none => cases h2
  | some d' =>
    unfold cutO at h2
    simp only at h2
    split at h2
    · rename_i hl
      cases h2
      obtain ⟨v, hv, rv⟩ := e.at_ i d h1
      exact ⟨v, hv, ltD_rel rv hl⟩
    · cases h2
theorem cut_po {W : Wish} {Dn : Ends} {r : RS} {ι0 : List Addr} {H0 : Hp} (hn : ι0.length = n) (h : PoS K w cl W ι0 H0 Dn (cutS n r)) : PoS K w cl W ι0 H0 Dn r := by
  cases r with
  | bad => exact h
  | exc x ρ s => exact h
  | ok c s =>
    cases c with
    | rt d => exact h
    | nx ρ =>
      have h2 : PoS K w cl W ι0 H0 Dn (if stOk n s = true then RS.ok (.nx (cutRho n ρ)) (s.take n) else .bad) := h
      by_cases hs : stOk n s = true
      · rw [if_pos hs] at h2
        intro ι1 H1 σ1 x1 r1 e1
        obtain ⟨et, xc⟩ := x1.cut hn
        have r2 := stOk_rel r1 hs
        have e2 := RelE.cut (n := n) e1
        rw [et] at r2 e2
        exact h2 ι0 H1 σ1 xc r2 e2
      · rw [if_neg hs] at h2
        exact False.elim h2
    | ct ρ =>
      have h2 : PoS K w cl W ι0 H0 Dn (if stOk n s = true then RS.ok (.ct (cutRho n ρ)) (s.take n) else .bad) := h
      by_cases hs : stOk n s = true
      · rw [if_pos hs] at h2
        intro ι1 H1 σ1 x1 r1 e1
        obtain ⟨et, xc⟩ := x1.cut hn
        have r2 := stOk_rel r1 hs
        have e2 := RelE.cut (n := n) e1
        rw [et] at r2 e2
        exact h2 ι0 H1 σ1 xc r2 e2
      · rw [if_neg hs] at h2
        exact False.elim h2
    | bk ρ =>
      have h2 : PoS K w cl W ι0 H0 Dn (if stOk n s = true then RS.ok (.bk (cutRho n ρ)) (s.take n) else .bad) := h
      by_cases hs : stOk n s = true
      · rw [if_pos hs] at h2
        intro ι1 H1 σ1 x1 r1 e1
        obtain ⟨et, xc⟩ := x1.cut hn
        have r2 := stOk_rel r1 hs
        have e2 := RelE.cut (n := n) e1
        rw [et] at r2 e2
        exact h2 ι0 H1 σ1 xc r2 e2
      · rw [if_neg hs] at h2
        exact False.elim h2
theorem sss_cut {X : Cx} {cl : Cl} {W : Wish} {sts : List Stmt} {m : MS} (h : SSs X cl W sts m) : SSs X cl W sts (sCut m) := by
  obtain ⟨t, p, q⟩ := h.ex
  exact ⟨t, p, fun Dn σ H ρ ι s en r hh => q Dn σ H ρ ι s en r (cut_po r.len hh)⟩
end
end Pm
namespace Pm
open PySem PySem.Spec PyProof.Rows L2

/-! ### while -/
def whileN (c : MT) (b : MS) : Nat → Rho → S → Option RS
  | 0, _, _ => none
  | k + 1, ρ, s => match c ρ s with
    | .ok true s1 => (match b ρ s1 with
      | .ok (.nx ρ2) s2 => whileN c b k ρ2 s2
      | .ok (.ct ρ2) s2 => whileN c b k ρ2 s2
      | .ok (.bk ρ2) s2 => some (.ok (.nx ρ2) s2)
      | r => some r)
    | .ok false s1 => some (.ok (.nx ρ) s1)
    | .exc x s1 => some (.exc x ρ s1)
    | .bad => some .bad
open Classical in
noncomputable def sWhile (c : MT) (b : MS) : MS := fun ρ s => if h : ∃ k r, whileN c b k ρ s = some r then h.choose_spec.choose else .bad
theorem whileN_mono (c : MT) (b : MS) : ∀ (k : Nat) (ρ : Rho) (s : S) (r : RS), whileN c b k ρ s = some r → whileN c b (k + 1) ρ s = some r
  | 0, _, _, _, h => by cases h
  | k + 1, ρ, s, r, h => by
    have ih := whileN_mono c b k
    unfold whileN at h ⊢
    cases hc : c ρ s with
    | bad => rw [hc] at h; exact h
    | exc x s1 => rw [hc] at h; exact h
    | ok q s1 =>
      rw [hc] at h
      cases q with
      | false => exact h
      | true =>
        simp only at h ⊢
        cases hb : b ρ s1 with
        | bad => rw [hb] at h; exact h
        | exc x ρ2 s2 => rw [hb] at h; exact h
        | ok c2 s2 =>
          rw [hb] at h
          cases c2 with
          | nx ρ2 => exact ih _ _ _ h
          | ct ρ2 => exact ih _ _ _ h
          | bk ρ2 => exact h
          | rt d => exact h
theorem whileN_le (c : MT) (b : MS) {j k : Nat} (h : j ≤ k) {ρ : Rho} {s : S} {r : RS} (e : whileN c b j ρ s = some r) : whileN c b k ρ s = some r := by
  induction h with
  | refl => exact e
  | step _ ih => exact whileN_mono c b _ _ _ _ ih
theorem sWhile_of {c : MT} {b : MS} {k : Nat} {ρ : Rho} {s : S} {r : RS} (e : whileN c b k ρ s = some r) : sWhile c b ρ s = r := by
  have h : ∃ k r, whileN c b k ρ s = some r := ⟨k, r, e⟩
  unfold sWhile
  rw [dif_pos h]
  have e2 := h.choose_spec.choose_spec
  rcases Nat.le_total k h.choose with hk | hk
  · have := whileN_le c b hk e
    rw [e2] at this
    exact Option.some.inj this
  · have := whileN_le c b hk e2
    rw [e] at this
    exact (Option.some.inj this).symm
/-- one turn -/
theorem sWhile_eq (c : MT) (b : MS) (ρ : Rho) (s : S) : sWhile c b ρ s = match c ρ s with
    | .ok true s1 => (match b ρ s1 with
      | .ok (.nx ρ2) s2 => sWhile c b ρ2 s2
      | .ok (.ct ρ2) s2 => sWhile c b ρ2 s2
      | .ok (.bk ρ2) s2 => .ok (.nx ρ2) s2
      | r => r)
    | .ok false s1 => .ok (.nx ρ) s1
    | .exc x s1 => .exc x ρ s1
    | .bad => .bad := by
  have go : ∀ {ρ2 : Rho} {s2 : S}, (∀ k, whileN c b (k + 1) ρ s = whileN c b k ρ2 s2) → sWhile c b ρ s = sWhile c b ρ2 s2 := fun {ρ2 s2} h => by
    by_cases hh : ∃ k r, whileN c b k ρ2 s2 = some r
    · obtain ⟨k, r, e⟩ := hh
      rw [sWhile_of e, sWhile_of (k := k + 1) (by rw [h]; exact e)]
    · have hn : ¬ ∃ k r, whileN c b k ρ s = some r := fun ⟨k, r, e⟩ => hh ⟨k, r, by rw [← h]; exact whileN_mono c b _ _ _ _ e⟩
      unfold sWhile
      rw [dif_neg hh, dif_neg hn]
  cases hc : c ρ s with
  | bad => exact sWhile_of (k := 1) (by unfold whileN; rw [hc])
  | exc x s1 => exact sWhile_of (k := 1) (by unfold whileN; rw [hc])
  | ok q s1 =>
    cases q with
    | false => exact sWhile_of (k := 1) (by unfold whileN; rw [hc])
    | true =>
      simp only
      cases hb : b ρ s1 with
      | bad => exact sWhile_of (k := 1) (by unfold whileN; rw [hc]; simp only [hb])
      | exc x ρ2 s2 => exact sWhile_of (k := 1) (by unfold whileN; rw [hc]; simp only [hb])
      | ok c2 s2 =>
        cases c2 with
        | nx ρ2 => exact go fun k => by rw [whileN, hc]; simp only [hb]
        | ct ρ2 => exact go fun k => by rw [whileN, hc]; simp only [hb]
        | bk ρ2 => exact sWhile_of (k := 1) (by unfold whileN; rw [hc]; simp only [hb])
        | rt d => exact sWhile_of (k := 1) (by unfold whileN; rw [hc]; simp only [hb])
section
variable {X : Cx} {cl : Cl} {W : Wish} {pos : Pos} {c : Expr} {body : List Stmt} {mt : MT} {b : MS}
theorem ss_while (hp : PassesOwn (model X.prog X.w) X.A X.env X.xe) (hc : SB X cl W c mt) (hb : SSs X cl W body b) : SS X cl W (.While c body [] pos) (sWhile mt b) := by
  obtain ⟨t, p1, q1⟩ := hc.ex
  obtain ⟨u, p2, q2⟩ := hb.ex
  refine ⟨_, ps_while hp p1 p2, fun Dn σ H ρ ι s en r h => ?_⟩
  by_cases hh : ∃ k r, whileN mt b k ρ s = some r
  rotate_left
  · unfold sWhile at h
    rw [dif_neg hh] at h
    exact False.elim h
  obtain ⟨k, r0, e⟩ := hh
  rw [sWhile_of e] at h
  refine ⟨fun m σ' H' => ∃ ρ' ι' s' r', RelE X.K X.w cl ι' H' ρ' σ' ∧ RelS X.K X.w cl ι' s' H' ∧ whileN mt b m ρ' s' = some r' ∧ PoS X.K X.w cl W ι' H' Dn r', ⟨k, ρ, ι, s, r0, en, r, e, h⟩, ?_⟩
  rintro m σ2 H2 ⟨ρ2, ι2, s2, r2, en2, rs2, e2, h2⟩
  cases m with
  | zero => cases e2
  | succ m =>
  unfold whileN at e2
  refine q1 σ2 H2 _ ρ2 ι2 s2 en2 rs2 ?_
  cases ec : mt ρ2 s2 with
  | bad => rw [ec] at e2; cases e2; exact h2
  | exc x s3 => rw [ec] at e2; cases e2; exact fun ι3 H3 c d x3 r3 rx => h2 ι3 H3 σ2 c d x3 r3 (en2.ext x3) rx
  | ok q s3 =>
  rw [ec] at e2
  intro ι3 H3 x3 r3
  cases q with
  | false =>
    cases e2
    exact h2 ι3 H3 σ2 x3 r3 (en2.ext x3)
  | true =>
    simp only at e2
    rw [if_pos rfl]
    refine ⟨fun σ' H' => ∃ ρ' ι' s' r', RelE X.K X.w cl ι' H' ρ' σ' ∧ RelS X.K X.w cl ι' s' H' ∧ whileN mt b m ρ' s' = some r' ∧ PoS X.K X.w cl W ι' H' Dn r', fun σ' H' z => ⟨m, Nat.lt_succ_self m, z⟩, ?_⟩
    refine q2 _ σ2 H3 ρ2 ι3 s3 (en2.ext x3) r3 ?_
    have h3 := PoS.ext x3 h2
    cases eb : b ρ2 s3 with
    | bad => rw [eb] at e2; cases e2; exact h3
    | exc x ρ4 s4 => rw [eb] at e2; cases e2; exact h3
    | ok c4 s4 =>
      rw [eb] at e2
      cases c4 with
      | nx ρ4 => exact fun ι4 H4 σ4 x4 r4 en4 => ⟨ρ4, ι4, s4, r2, en4, r4, e2, PoS.ext x4 h3⟩
      | ct ρ4 => exact fun ι4 H4 σ4 x4 r4 en4 => ⟨ρ4, ι4, s4, r2, en4, r4, e2, PoS.ext x4 h3⟩
      | bk ρ4 => cases e2; exact h3
      | rt d => cases e2; exact h3
end

/-! ### fields, new instances -/
def insOf (s : S) : D → Option (Str × List (Str × D))
  | .ins c fs => some (c, fs)
  | .ref n => match s[n]? with
    | some (.ins c fs) => some (c, fs)
    | _ => none
  | _ => none
/-- o.f, the class of o one of cs -/
def mFld (f : Str) (cs : List Str) (m : ME) : ME := fun ρ s => (m ρ s).bind fun d s1 => match insOf s1 d with
  | some (c, fs) => if c ∈ cs then (match fs.lookup f with
    | some v => .ok v s1
    | none => .bad) else .bad
  | none => .bad
def putFD (f : Str) (v : D) : List (Str × D) → List (Str × D)
  | [] => [(f, v)]
  | (g, u) :: r => if g = f then (g, v) :: r else (g, u) :: putFD f v r
/-- o.f = v -/
def sFldD (f : Str) (cs : List Str) (mo mv : ME) : MS := fun ρ s => (mv ρ s).st ρ fun v s1 => (mo ρ s1).st ρ fun d s2 => match d with
  | .ref n => (match s2[n]? with
    | some (.ins c fs) => if c ∈ cs ∧ fs.length < 1000 then .ok (.nx ρ) (s2.set n (.ins c (putFD f v fs))) else .bad
    | _ => .bad)
  | _ => .bad
/-- C(..) -/
def mMake (c : Str) (G : List D → S → R D) (ms : MA) : ME := fun ρ s => (ms ρ s).bind fun ds s1 => match G (.ref s1.length :: ds) (s1 ++ [.ins c []]) with
  | .ok .non s2 => .ok (.ref s1.length) s2
  | .exc x s2 => .exc x s2
  | _ => .bad
section
variable {X : Cx} {cl : Cl} {W : Wish} {pos pos' p : Pos} {e o value : Expr} {m mo mv : ME}
theorem fs_lookup {K : PySem.W.Frag} {w : World} {ι : List Addr} {H : Hp} {f : Str} {d : D} : ∀ {fs : List (Str × D)} {vs : List (Str × V)}, RelFs K w cl ι H fs vs → fs.lookup f = some d → ∃ v, vs.lookup f = some v ∧ RelD K w cl ι H d v := by
  intro fs vs r e
  have := kdx_lookup r f
  rw [e] at this
  exact this
theorem fs_len {K : PySem.W.Frag} {w : World} {ι : List Addr} {H : Hp} : ∀ {fs : List (Str × D)} {vs : List (Str × V)}, RelFs K w cl ι H fs vs → fs.length = vs.length
  | _, _, .nil => rfl
  | _, _, .cons _ t => congrArg (· + 1) (fs_len t)
theorem fs_put {K : PySem.W.Frag} {w : World} {ι : List Addr} {H : Hp} {f : Str} {d : D} {v : V} (rd : RelD K w cl ι H d v) : ∀ {fs : List (Str × D)} {vs : List (Str × V)}, RelFs K w cl ι H fs vs → RelFs K w cl ι H (putFD f d fs) (putF f v vs)
  | _, _, .nil => .cons rd .nil
  | _, _, .cons (f := g) r t => by
    unfold putFD putF
    by_cases hg : g = f
    · rw [if_pos hg, if_pos hg]; exact .cons rd t
    · rw [if_neg hg, if_neg hg]; exact .cons r (fs_put rd t)
theorem insOf_at {K : PySem.W.Frag} {w : World} {ι : List Addr} {H : Hp} {s : S} {d : D} {v : V} {c : Str} {fs : List (Str × D)} (rs : RelS K w cl ι s H) (r : RelD K w cl ι H d v) (h : insOf s d = some (c, fs)) :
    ∃ a A dx vs, v = .ref a ∧ cl c = some A ∧ Cls K A ∧ H a = some (.ins A dx vs) ∧ RelFs K w cl ι H fs vs := by
  cases r <;> simp only [insOf] at h <;> try cases h
  · rename_i n a hn
    split at h
    · rename_i c' fs' e
      cases h
      obtain ⟨a', ea, A, dx, vs, hc, hk, hv, rv⟩ := rs.at_ n _ e
      rw [hn] at ea
      cases ea
      exact ⟨_, A, dx, vs, rfl, hc, hk, hv, rv⟩
    · cases h
  · rename_i hk h1 ha hc r1
    exact ⟨_, _, _, _, rfl, hc, hk, h1, r1⟩
theorem se_fld (f : Str) (cs : List Str) (hn : ∀ c ∈ cs, ∀ A, cl c = some A → NoAttr X.K A f) (he : SE X cl W e m) (hb : attributeBase e f X.env (eval e X.env) = eval e X.env := by rfl) : SE X cl W (.Attribute e f pos) (mFld f cs m) := by
  obtain ⟨t, p1, q1⟩ := he.ex
  refine ⟨_, pe_fld p1 hb, fun σ H Q ρ ι s en r h => ?_⟩
  refine q1 σ H _ ρ ι s en r (PoE.step h fun d s1 ι1 H1 v e1 x1 r1 d1 h1 => ?_)
  split at h1
  · rename_i c fs ei
    split at h1
    · rename_i hc
      split at h1
      · rename_i dv el
        obtain ⟨a, A, dx, vs, rfl, hcl, hk, ha, rf⟩ := insOf_at r1 d1 ei
        obtain ⟨v2, ev, rv⟩ := fs_lookup rf el
        exact ⟨a, A, dx, vs, v2, rfl, ha, hk, hn c hc A hcl, ev, h1 ι1 H1 v2 (Ext.refl _ _) r1 rv⟩
      · exact False.elim h1
    · exact False.elim h1
  · exact False.elim h1
theorem ss_fld (f : Str) (cs : List Str) (hn : ∀ c ∈ cs, ∀ A, cl c = some A → NoAttr X.K A f) (ho : SE X cl W o mo) (hv : SE X cl W value mv) (hs : swapsWith value (some (.Attribute o f pos')) pos.line X.env = pure false := by rfl) : SS X cl W (.Assign [.Attribute o f pos'] value pos) (sFldD f cs mo mv) := by
  obtain ⟨t, p1, q1⟩ := ho.ex
  obtain ⟨u, p2, q2⟩ := hv.ex
  refine ⟨_, ps_fld p1 p2 hs, fun Dn σ H ρ ι s en r h => ?_⟩
  refine q2 σ H _ ρ ι s en r (PoS.stepE en h fun d s1 ι1 H1 v e1 x1 r1 d1 h1 => ?_)
  refine q1 σ H1 _ ρ ι1 s1 (en.ext x1) r1 (PoS.stepE (en.ext x1) h1 fun d2 s2 ι2 H2 v2 e2 x2 r2 dd2 h2 => ?_)
  cases dd2 with
  | @ref n a hn2 =>
    simp only at h2
    cases e5 : s2[n]? with
    | none => rw [e5] at h2; exact False.elim h2
    | some ob =>
    cases ob with
    | lst xs => rw [e5] at h2; exact False.elim h2
    | dK kvs => rw [e5] at h2; exact False.elim h2
    | ins c fs =>
    rw [e5] at h2
    simp only at h2
    split at h2
    · rename_i hc
      obtain ⟨a', ea, A, dx, vs, hcl, hk, ha, rf⟩ := r2.at_ n _ e5
      rw [hn2] at ea
      obtain rfl := Option.some.inj ea
      have hm := List.mem_of_getElem? hn2
      refine ⟨_, A, dx, vs, rfl, ha, hk, hn c hc.1 A hcl, by rw [← fs_len rf]; exact hc.2, ?_⟩
      have xw := Ext.write (ι := ι2) (H := H2) (o := HO.ins A dx (putF f v vs)) hm
      exact h2 ι2 _ σ xw (r2.write hn2 ⟨A, dx, _, hcl, hk, upd_same, fs_put ((d1.ext x2).ext xw) (by
        have := rf
        exact (RelFs.ext xw this))⟩) (((en.ext x1).ext x2).ext xw)
    · exact False.elim h2
  | _ => exact False.elim h2
/-- a new instance, what its __init__ lets out told at the slots -/
def tNewS (C : Addr) (sp : Sp) (W : Wish) (t : TA) : TE := fun σ H Q => t σ H fun vs H1 => ∀ x dx, H1 x = none → H1 dx = none → dx ≠ x →
  sp (.ref x :: vs) (upd (upd H1 dx (.own x)) x (.ins C dx [])) (fun v H2 => v = .non ∧ Q (.ref x) H2) (WE W σ)
section
variable {x : Str} {es : List Expr} {ms : MA} {f C : Addr} {fd : FuncData} {ps : List Str} {k n : Nat} {G : List D → S → R D} {sp : Sp} {t : TA}
theorem run_new (tk : Takes X W) {pins : List (Addr × Obj)} {σ : L2.St} {H : Hp} {s : Shared} {Q : VK} {us : List Value} {vs : List V} (M : Mk X.K C f) (F : FnOk X.prog X.w X.K X.mg X.base (L2.CX X.prog X.w) k f fd ps sp) (hr : Room (k + 1) X.A) (hb : Binds X.K fd ps [])
    (I : Inv X pins σ H s) (r : Vals vs us) (h : ∀ x dx, H x = none → H dx = none → dx ≠ x → sp (.ref x :: vs) (upd (upd H dx (.own x)) x (.ins C dx [])) (fun v H2 => v = .non ∧ Q (.ref x) H2) (WE W σ)) :
    wpAny (model X.prog X.w) X.A (call (.ref C) us) (EP X pins σ Q) X.xe s := by
  have hq := h (s.heap.objs.size + 1) s.heap.objs.size (I.hok.fresh (Nat.le_succ _)) (I.hok.fresh (Nat.le_refl _)) (Nat.ne_of_lt (Nat.lt_succ_self _))
  have J := Inv.made (C := C) I
  have rr : Vals (V.ref (s.heap.objs.size + 1) :: vs) (Value.ref (s.heap.objs.size + 1) :: us) := .cons rfl r
  have hl : (Value.ref (s.heap.objs.size + 1) :: us ++ []).length = ps.length := by
    rw [List.append_nil, ← rr.length]
    exact F.len _ _ _ _ hq
  have hb2 := hb _ (Value.ref (s.heap.objs.size + 1) :: us) J.kIn hl
  rw [List.append_nil] at hb2
  have run := F.run _ X.stack _ _ ⟨Value.ref (s.heap.objs.size + 1) :: us, []⟩ _ _ _ (WE W σ) (hr.make C us []) (J.env0.make C us []) hb2 rr hq
  refine wpAny_call (make_map (f := f) I.kIn M.makes M.init (beq_iff_eq.mp M.fn) (codeAny_mono run fun res s' hres => ?_))
  match res, hres with
  | .error ex, hres => exact passAt tk σ pins _ _ ex s' J hres
  | .ok .next, hres => exact False.elim hres
  | .ok .brk, hres => exact False.elim hres
  | .ok .cont, hres => exact False.elim hres
  | .ok (.ret u), hres =>
    obtain ⟨v, H', J', rv, ev, q⟩ := J.after hres
    subst ev
    exact ⟨rv, V.ref (s.heap.objs.size + 1), H', J', rfl, q⟩
theorem pe_new (tk : Takes X W) (M : Mk X.K C f) (F : FnOk X.prog X.w X.K X.mg X.base (L2.CX X.prog X.w) k f fd ps sp) (hr : Room (k + 1) X.A) (hg : Gl X x) (hm : X.mg x = some (.ref C)) (hb : Binds X.K fd ps []) (ha : PA X (e :: es) t)
    (hdb : (x == ("__debug__" : Str)) = false := by decide) (he : starEach (e :: es) X.env = (false, eval e X.env) :: starEach es X.env := by rfl) (hpl : (backTo pos (starEach es X.env)).any (·.1) = false := by rfl) :
    PE X (.Call (.Name x p) (e :: es) [] pos) (tNewS C sp W t) := by
  refine ⟨fun pins s σ H Q I h => wpAny_Call_Name_kw (ld_glob I hg hm ?_ hdb)⟩
  refine PySem.W.callWith_K (h₀ := X.base) I.ok.mod.kin M.kp (thn (ha.run pos pins s σ H _ I h) fun us s1 ⟨vs, H1, I1, r, q⟩ => ⟨I1.kIn, ?_⟩) he hpl
  exact run_new tk M F hr hb I1 r q
theorem se_make (c : Str) (hc : cl c = some C) (hk : Cls X.K C) (tk : Takes X W) (M : Mk X.K C f) (F : FnOk X.prog X.w X.K X.mg X.base (L2.CX X.prog X.w) k f fd ps (spD X.K X.w cl n G)) (hn : ∀ ds s, ds.length ≠ n → G ds s = .bad) (hr : Room (k + 1) X.A) (hg : Gl X x) (hm : X.mg x = some (.ref C)) (hb : Binds X.K fd ps [])
    (ha : SA X cl W (e :: es) ms) (hdb : (x == ("__debug__" : Str)) = false := by decide) (he : starEach (e :: es) X.env = (false, eval e X.env) :: starEach es X.env := by rfl) (hpl : (backTo pos (starEach es X.env)).any (·.1) = false := by rfl) :
    SE X cl W (.Call (.Name x p) (e :: es) [] pos) (mMake c G ms) := by
  obtain ⟨ta, pa, qa⟩ := ha.ex
  refine ⟨_, pe_new tk M F hr hg hm hb pa hdb he hpl, fun σ H Q ρ ι s en r h => ?_⟩
  refine qa σ H _ ρ ι s en r (PoE.stepA h fun ds s1 ι1 H1 vs e1 x1 r1 d1 h1 => ?_)
  intro x dx nx ndx hne
  have xa : Ext ι1 H1 ι1 (upd H1 dx (.own x)) := Ext.new ndx
  have nx2 : upd H1 dx (.own x) x = none := by rw [upd_ne (Ne.symm hne)]; exact nx
  have xb : Ext ι1 (upd H1 dx (.own x)) (ι1 ++ [x]) (upd (upd H1 dx (.own x)) x (.ins C dx [])) := Ext.push nx2
  have r2 : RelS X.K X.w cl (ι1 ++ [x]) (s1 ++ [.ins c []]) (upd (upd H1 dx (.own x)) x (.ins C dx [])) := (r1.laid ndx).push nx2 ⟨C, dx, [], hc, hk, upd_same, .nil⟩
  have hx : (ι1 ++ [x])[s1.length]? = some x := by rw [List.getElem?_append_right (by rw [r1.len]; exact Nat.le_refl _), r1.len]; simp
  have rd : RelDs X.K X.w cl (ι1 ++ [x]) (upd (upd H1 dx (.own x)) x (.ins C dx [])) (.ref s1.length :: ds) (.ref x :: vs) := .cons (.ref hx) ((d1.ext xa).ext xb)
  have x12 := xa.trans xb
  refine call_po (W := W) hn r2 rd ?_
  cases hG : G (.ref s1.length :: ds) (s1 ++ [.ins c []]) with
  | bad => rw [hG] at h1; exact h1
  | exc xx s2 => rw [hG] at h1; exact fun ι3 H3 cc dd x3 => h1 ι3 H3 cc dd (x12.trans x3)
  | ok d s2 =>
    rw [hG] at h1
    cases d with
    | non =>
      intro ι3 H3 v x3 r3 rv
      cases rv
      exact ⟨rfl, h1 ι3 H3 (.ref x) (x12.trans x3) r3 (.ref (x3.at hx))⟩
    | _ => exact False.elim h1
end
end
end Pm
namespace Pm
open PySem PySem.Spec PyProof.Rows L2

/-! ### built-in calls -/
def dLen : List D → S → R D
  | [.str z], s => if z.length ≤ sizeLine then .ok (.int z.length) s else .bad
  | [.tup xs], s => .ok (.int xs.length) s
  | [d], s => match lview s d with
    | some xs => .ok (.int xs.length) s
    | none => .bad
  | _, _ => .bad
def dInt : List D → S → R D
  | [.int i], s => .ok (.int i) s
  | [.bl b], s => .ok (.int (if b then 1 else 0)) s
  | _, _ => .bad
def dAbs : List D → S → R D
  | [.int i], s => .ok (.int (if i < 0 then -i else i)) s
  | _, _ => .bad
def dMin2 : List D → S → R D
  | [.int i, .int j], s => .ok (.int (if j < i then j else i)) s
  | _, _ => .bad
def dMax2 : List D → S → R D
  | [.int i, .int j], s => .ok (.int (if j > i then j else i)) s
  | _, _ => .bad
def sview (s : S) : D → Option (List D)
  | .tup xs => some xs
  | d => lview s d
/-- list(x): a finished one, or a thing of the store -/
def dList (new : Bool) : List D → S → R D
  | [d], s => match sview s d with
    | some xs => if new then .ok (.ref s.length) (s ++ [.lst xs]) else .ok (.lst xs) s
    | none => .bad
  | _, _ => .bad
def dTuple : List D → S → R D
  | [d], s => match sview s d with
    | some xs => .ok (.tup xs) s
    | none => .bad
  | _, _ => .bad
section
variable {X : Cx} {cl : Cl} {W : Wish}
theorem d_len : CallD X cl (.builtin "len") dLen := by
  intro W ι H σ Q s ds xs rs rds h
  unfold dLen at h
  split at h
  · obtain ⟨v, rfl, r⟩ := rds.one
    cases r
    split at h
    · exact ⟨_, call_len_str, _, rfl, by assumption, h ι H _ (Ext.refl _ _) rs (.int _)⟩
    · exact False.elim h
  · obtain ⟨v, rfl, r⟩ := rds.one
    cases r with
    | tup h1 r1 => exact ⟨_, call_len_seq, _, _, rfl, .inr h1.sq, by rw [← r1.length]; exact h ι H _ (Ext.refl _ _) rs (.int _)⟩
  · obtain ⟨v, rfl, r⟩ := rds.one
    split at h
    · rename_i ys e
      obtain ⟨a, vs, rfl, hl, r1⟩ := lview_at rs r e
      exact ⟨_, call_len_seq, _, _, rfl, .inl hl.sq, by rw [← r1.length]; exact h ι H _ (Ext.refl _ _) rs (.int _)⟩
    · exact False.elim h
  · exact False.elim h
theorem d_int : CallD X cl (.type "int") dInt := by
  intro W ι H σ Q s ds xs rs rds h
  unfold dInt at h
  split at h
  · obtain ⟨v, rfl, r⟩ := rds.one
    cases r
    exact ⟨_, call_int1, .inl ⟨_, rfl, h ι H _ (Ext.refl _ _) rs (.int _)⟩⟩
  · obtain ⟨v, rfl, r⟩ := rds.one
    cases r
    exact ⟨_, call_int1, .inr ⟨_, rfl, h ι H _ (Ext.refl _ _) rs (.int _)⟩⟩
  · exact False.elim h
theorem d_abs : CallD X cl (.builtin "abs") dAbs := by
  intro W ι H σ Q s ds xs rs rds h
  unfold dAbs at h
  split at h
  · obtain ⟨v, rfl, r⟩ := rds.one
    cases r
    exact ⟨_, call_abs, _, rfl, h ι H _ (Ext.refl _ _) rs (.int _)⟩
  · exact False.elim h
theorem d_min2 (hc : X.calm = true) : CallD X cl (.builtin "min") dMin2 := by
  intro W ι H σ Q s ds xs rs rds h
  unfold dMin2 at h
  split at h
  · obtain ⟨v, u, rfl, r, q⟩ := rds.two
    cases r; cases q
    exact ⟨_, call_min2 hc, _, _, rfl, h ι H _ (Ext.refl _ _) rs (.int _)⟩
  · exact False.elim h
theorem d_max2 (hc : X.calm = true) : CallD X cl (.builtin "max") dMax2 := by
  intro W ι H σ Q s ds xs rs rds h
  unfold dMax2 at h
  split at h
  · obtain ⟨v, u, rfl, r, q⟩ := rds.two
    cases r; cases q
    exact ⟨_, call_max2 hc, _, _, rfl, h ι H _ (Ext.refl _ _) rs (.int _)⟩
  · exact False.elim h
theorem sview_at {K : PySem.W.Frag} {w : World} {ι : List Addr} {H : Hp} {s : S} {d : D} {xs : List D} {v : V} (rs : RelS K w cl ι s H) (r : RelD K w cl ι H d v) (h : sview s d = some xs) :
    ∃ a vs, v = .ref a ∧ ((SqL K H a vs) ∨ (SqT K H a vs ∧ d = .tup xs)) ∧ RelDs K w cl ι H xs vs := by
  unfold sview at h
  split at h
  · cases h
    cases r with
    | tup h1 r1 => exact ⟨_, _, rfl, .inr ⟨h1.sq, rfl⟩, r1⟩
  · obtain ⟨a, vs, e, hl, r1⟩ := lview_at rs r h
    exact ⟨a, vs, e, .inl hl.sq, r1⟩
theorem d_list (new : Bool) : CallD X cl (.type "list") (dList new) := by
  intro W ι H σ Q s ds xs rs rds h
  unfold dList at h
  split at h
  · obtain ⟨v, rfl, r⟩ := rds.one
    split at h
    · rename_i ys e
      obtain ⟨a, vs, rfl, hl, r1⟩ := sview_at rs r e
      refine ⟨_, call_list_of, a, vs, rfl, hl.imp id (·.1), fun l hn => ?_⟩
      cases new with
      | true => obtain ⟨x, y, z⟩ := new_ref rs r1 hn; exact h _ _ _ x y z
      | false => obtain ⟨x, y, z⟩ := new_lst rs r1 hn; exact h _ _ _ x y z
    · exact False.elim h
  · exact False.elim h
theorem d_tuple : CallD X cl (.type "tuple") dTuple := by
  intro W ι H σ Q s ds xs rs rds h
  unfold dTuple at h
  split at h
  · obtain ⟨v, rfl, r⟩ := rds.one
    split at h
    · rename_i ys e
      obtain ⟨a, vs, rfl, hl, r1⟩ := sview_at rs r e
      refine ⟨_, call_tuple_of, a, vs, rfl, ?_⟩
      rcases hl with hl | ⟨hl, rfl⟩
      · exact .inl ⟨hl, fun l hn => by obtain ⟨x, y, z⟩ := new_tup rs r1 hn; exact h _ _ _ x y z⟩
      · exact .inr ⟨hl, h ι H _ (Ext.refl _ _) rs r⟩
    · exact False.elim h
  · exact False.elim h
variable {x : Str} {id T : String} {pos p : Pos} {e : Expr} {es : List Expr} {ms : MA} {g : List D → S → R D}
theorem se_callB (hc : CallD X cl (.builtin id) g) (hg : Gl X x) (hm : X.mg x = none) (hv : bootBuiltins x = some (.builtin id)) (ha : SA X cl W (e :: es) ms) (hn : x ≠ "__name__" := by decide) (hdb : (x == ("__debug__" : Str)) = false := by decide)
    (he : starEach (e :: es) X.env = (false, eval e X.env) :: starEach es X.env := by rfl) (hpl : (backTo pos (starEach es X.env)).any (·.1) = false := by rfl) : SE X cl W (.Call (.Name x p) (e :: es) [] pos) (mN g ms) := by
  obtain ⟨ta, pa, qa⟩ := ha.ex
  refine ⟨_, pe_callB anyCall hg hm hv pa hn hdb he hpl, fun σ H Q ρ ι s en r h => ?_⟩
  exact qa σ H _ ρ ι s en r (PoE.stepA h fun ds s1 ι1 H1 vs e1 x1 r1 d1 h1 => hc W ι1 H1 σ Q s1 ds vs r1 d1 h1)
theorem se_callTy (hc : CallD X cl (.type T) g) (hg : Gl X x) (hm : X.mg x = none) (hv : bootBuiltins x = some (.type T)) (ha : SA X cl W (e :: es) ms) (hn : x ≠ "__name__" := by decide) (hdb : (x == ("__debug__" : Str)) = false := by decide)
    (he : starEach (e :: es) X.env = (false, eval e X.env) :: starEach es X.env := by rfl) (hpl : (backTo pos (starEach es X.env)).any (·.1) = false := by rfl) : SE X cl W (.Call (.Name x p) (e :: es) [] pos) (mN g ms) := by
  obtain ⟨ta, pa, qa⟩ := ha.ex
  refine ⟨_, pe_callTy anyCall hg hm hv pa hn hdb he hpl, fun σ H Q ρ ι s en r h => ?_⟩
  exact qa σ H _ ρ ι s en r (PoE.stepA h fun ds s1 ι1 H1 vs e1 x1 r1 d1 h1 => hc W ι1 H1 σ Q s1 ds vs r1 d1 h1)
end

/-! ### isinstance with built-in types -/
def tyName (s : S) : D → Option String
  | .non => some "NoneType"
  | .bl _ => some "bool"
  | .int _ => some "int"
  | .str _ => some "str"
  | .tup _ => some "tuple"
  | .lst _ => some "list"
  | .ref n => match s[n]? with
    | some (.lst _) => some "list"
    | _ => none
  | _ => none
def isSub (a b : String) : Bool := a == b || (a == "bool" && b == "int")
def okTy (b : String) : Bool := ["tuple", "list", "int", "str", "bool"].contains b
def mIsi (tys : List String) (m : ME) : ME := fun ρ s => (m ρ s).bind fun d s1 => match tyName s1 d with
  | some a => .ok (.bl (tys.any (isSub a))) s1
  | none => .bad
section
variable {X : Cx} {cl : Cl} {W : Wish} {K : PySem.W.Frag} {w : World} {ι : List Addr} {H : Hp} {s : S}
theorem kitB_ok {a b : String} (ha : a ∈ ["NoneType", "bool", "int", "str", "tuple", "list"]) (hb : okTy b = true) : kitB a b = some (isSub a b) := by
  have hb' : b ∈ ["tuple", "list", "int", "str", "bool"] := by simpa [okTy] using hb
  simp only [List.mem_cons, List.not_mem_nil, or_false] at ha hb'
  rcases ha with rfl | rfl | rfl | rfl | rfl | rfl <;> rcases hb' with rfl | rfl | rfl | rfl | rfl <;> decide +kernel
theorem tyName_mem {d : D} {a : String} (h : tyName s d = some a) : a ∈ ["NoneType", "bool", "int", "str", "tuple", "list"] := by
  cases d <;> simp only [tyName] at h <;> (try cases h) <;> (try decide)
  split at h
  · cases h; decide
  · cases h
theorem kitAny_ok {a : String} (ha : a ∈ ["NoneType", "bool", "int", "str", "tuple", "list"]) : ∀ {tys : List String}, tys.all okTy = true → PySem.W.kitAny K (.type a) (tys.map Value.type) = some (tys.any (isSub a))
  | [], _ => rfl
  | b :: tys, h => by
    rw [List.all_cons, Bool.and_eq_true] at h
    have ih := kitAny_ok ha (tys := tys) h.2
    refine kitAny_cons (kit_ty (kitB_ok ha h.1)) (fun e => ?_) (fun e => ?_)
    · rw [ih, List.any_cons, e, Bool.false_or]
    · rw [List.any_cons, e, Bool.true_or]
theorem tyName_X {d : D} {v : V} {a : String} (rs : RelS K w cl ι s H) (r : RelD K w cl ι H d v) (h : tyName s d = some a) : TyX K H v (.type a) := by
  cases r <;> simp only [tyName] at h <;> (try cases h)
  · exact .base .non
  · exact .base (.bl _)
  · exact .base (.int _)
  · exact .base (.str _)
  · rename_i h1 _
    rcases h1 with ⟨h1 | ⟨o, h1⟩, _⟩ | ⟨o, its, n, h1, h2, _⟩
    · exact .base (.tup h1)
    · exact .fTuple h1
    · exact .kTuple h1 h2
  · rename_i h1 _
    rcases h1 with ⟨h1 | ⟨o, h1⟩, _⟩ | ⟨o, its, n, h1, h2, _⟩
    · exact .base (.lst h1)
    · exact .base (.frz h1)
    · exact .kList h1 h2
  · rename_i n a' hn
    split at h
    · rename_i xs e
      cases h
      obtain ⟨a2, ea, vs, hv, _⟩ := rs.at_ n _ e
      rw [hn] at ea
      cases ea
      exact .base (.lst hv)
    · cases h
/-- the classes: names of built-in types -/
inductive TyNames (X : Cx) : List Expr → List String → Prop
  | nil : TyNames X [] []
  | cons {x : Str} {T : String} {pos : Pos} {es : List Expr} {ts : List String} (h : PE X (.Name x pos) (tC (.ty T))) (hs : starEach (.Name x pos :: es) X.env = (false, eval (.Name x pos) X.env) :: starEach es X.env) (t : TyNames X es ts) : TyNames X (.Name x pos :: es) (T :: ts)
theorem TyNames.pa : ∀ {es : List Expr} {ts : List String}, TyNames X es ts → ∃ t, PA X es t ∧ ∀ σ H Q, Q (ts.map V.ty) H → t σ H Q
  | _, _, .nil => ⟨_, pa_nil, fun _ _ _ h => h⟩
  | _, _, .cons h hs t => by
    obtain ⟨u, p, q⟩ := TyNames.pa t
    exact ⟨_, pa_cons h p hs, fun σ H Q hq => q σ H _ hq⟩
theorem paired_ty : ∀ ts : List String, Paired ClsV (ts.map V.ty) (ts.map Value.type)
  | [] => .nil
  | t :: ts => .cons (.ty t) (paired_ty ts)
variable {e : Expr} {es : List Expr} {m : ME} {pos p tpos npos : Pos} {k : Nat} {tys : List String} {x : Str} {T : String}
theorem pe_tyn {x : Str} {T : String} {pos : Pos} (hg : Gl X x) (hm : X.mg x = none) (hv : bootBuiltins x = some (.type T)) (hn : x ≠ "__name__" := by decide) (hd : (x == ("__debug__" : Str)) = false := by decide) : PE X (.Name x pos) (tC (.ty T)) := pe_bltn hg hm hv rfl hn hd
theorem se_isiT (hg : Gl X "isinstance") (hm : X.mg "isinstance" = none) (he : SE X cl W e m) (ht : TyNames X es tys) (hok : tys.all okTy = true) (hlen : tys.length ≤ sizeLine)
    (hs : starEach (e :: [.Tuple es k tpos]) X.env = (false, eval e X.env) :: starEach [.Tuple es k tpos] X.env := by rfl) (hs2 : starEach (.Tuple es k tpos :: []) X.env = (false, eval (.Tuple es k tpos) X.env) :: starEach [] X.env := by rfl)
    (hpl : (backTo pos (starEach [.Tuple es k tpos] X.env)).any (·.1) = false := by rfl) : SE X cl W (.Call (.Name "isinstance" p) [e, .Tuple es k tpos] [] pos) (mIsi tys m) := by
  obtain ⟨t, p1, q1⟩ := he.ex
  obtain ⟨u, p2, q2⟩ := ht.pa
  refine ⟨_, pe_callB call_isiT hg hm boot_isinstance (pa_cons p1 (pa_cons (pe_tup p2) pa_nil hs2) hs) (by decide) (by decide) hs hpl, fun σ H Q ρ ι s en r h => ?_⟩
  refine q1 σ H _ ρ ι s en r (PoE.step h fun d s1 ι1 H1 v e1 x1 r1 d1 h1 => ?_)
  split at h1
  · rename_i a ea
    refine q2 σ H1 _ ⟨by rw [List.length_map]; exact hlen, fun tp htp => ?_⟩
    obtain ⟨xn, rn⟩ := And.intro (Ext.new (ι := ι1) (o := HO.tup (tys.map V.ty)) htp) (r1.laid (o := HO.tup (tys.map V.ty)) htp)
    exact ⟨v, tp, _, _, _, _, rfl, upd_same, paired_ty tys, tyName_X rn (d1.ext xn) ea, kitAny_ok (tyName_mem ea) hok, h1 ι1 _ _ xn rn (.bl _)⟩
  · exact False.elim h1
theorem se_isi1 (hg : Gl X "isinstance") (hm : X.mg "isinstance" = none) (he : SE X cl W e m) (ht : PE X (.Name x npos) (tC (.ty T))) (hok : okTy T = true)
    (hs : starEach (e :: [.Name x npos]) X.env = (false, eval e X.env) :: starEach [.Name x npos] X.env := by rfl) (hs2 : starEach (.Name x npos :: []) X.env = (false, eval (.Name x npos) X.env) :: starEach [] X.env := by rfl)
    (hpl : (backTo pos (starEach [.Name x npos] X.env)).any (·.1) = false := by rfl) : SE X cl W (.Call (.Name "isinstance" p) [e, .Name x npos] [] pos) (mIsi [T] m) := by
  obtain ⟨t, p1, q1⟩ := he.ex
  refine ⟨_, pe_callB call_isi hg hm boot_isinstance (pa_cons p1 (pa_cons ht pa_nil hs2) hs) (by decide) (by decide) hs hpl, fun σ H Q ρ ι s en r h => ?_⟩
  refine q1 σ H _ ρ ι s en r (PoE.step h fun d s1 ι1 H1 v e1 x1 r1 d1 h1 => ?_)
  split at h1
  · rename_i a ea
    refine ⟨v, _, _, _, _, rfl, .ty T, tyName_X r1 d1 ea, kit_ty (kitB_ok (tyName_mem ea) hok), ?_⟩
    have := h1 ι1 H1 _ (Ext.refl _ _) r1 (.bl _)
    simpa using this
  · exact False.elim h1
end

/-! ### methods of built-in types -/
def hasTy (T : String) (s : S) (d : D) : Bool := match T, d with
  | "str", .str _ => true
  | "list", d => (lview s d).isSome
  | _, _ => false
def mMt (T : String) (f : D → List D → S → R D) (a : ME) (as : MA) : ME := fun ρ s => (a ρ s).bind fun x s1 => if hasTy T s1 x = true then (as ρ s1).bind fun xs s2 => f x xs s2 else .bad
def MtD (X : Cx) (cl : Cl) (id : String) (g : D → List D → S → R D) : Prop :=
  ∀ (W : Wish) (ι : List Addr) (H : Hp) (σ : L2.St) (Q : VK) (s : S) (dx : D) (ds : List D) (x : V) (xs : List V), RelS X.K X.w cl ι s H → RelD X.K X.w cl ι H dx x → RelDs X.K X.w cl ι H ds xs → PoE X.K X.w cl W ι H σ Q (g dx ds s) → AnyMt X id x xs H Q
def dAppend : D → List D → S → R D
  | .ref n, [d], s => (match s[n]? with
    | some (.lst xs) => if xs.length < sizeLine then .ok .non (s.set n (.lst (xs ++ [d]))) else .bad
    | _ => .bad)
  | _, _, _ => .bad
def dPop : D → List D → S → R D
  | .ref n, [], s => (match s[n]? with
    | some (.lst xs) => (match xs[xs.length - 1]? with
      | some d => .ok d (s.set n (.lst xs.dropLast))
      | none => .bad)
    | _ => .bad)
  | _, _, _ => .bad
def dReverse : D → List D → S → R D
  | .ref n, [], s => (match s[n]? with
    | some (.lst xs) => .ok .non (s.set n (.lst xs.reverse))
    | _ => .bad)
  | _, _, _ => .bad
def dSplit : D → List D → S → R D
  | .str a, [.str b], s => if b.length ≠ 0 ∧ a.length + 2 ≤ sizeLine then .ok (.lst ((Txt.split a b).map .str)) s else .bad
  | _, _, _ => .bad
section
variable {X : Cx} {cl : Cl} {W : Wish}
theorem lst_at {K : PySem.W.Frag} {w : World} {ι : List Addr} {H : Hp} {s : S} {n : Nat} {v : V} {xs : List D} (rs : RelS K w cl ι s H) (r : RelD K w cl ι H (.ref n) v) (e : s[n]? = some (.lst xs)) :
    ∃ a vs, v = .ref a ∧ ι[n]? = some a ∧ H a = some (.lst vs) ∧ RelDs K w cl ι H xs vs := by
  cases r with
  | ref hn =>
    obtain ⟨a', ea, vs, hv, rv⟩ := rs.at_ n _ e
    rw [hn] at ea
    cases ea
    exact ⟨_, vs, rfl, hn, hv, rv⟩
theorem d_append : MtD X cl "list.append" dAppend := by
  intro W ι H σ Q s dx ds x xs rs rx rds h
  unfold dAppend at h
  split at h
  · split at h
    · rename_i ys e
      split at h
      · rename_i hl
        obtain ⟨a, vs, rfl, hn, hv, rv⟩ := lst_at rs rx e
        obtain ⟨v, rfl, r⟩ := rds.one
        have hm := List.mem_of_getElem? hn
        have xw : Ext ι H ι (upd H a (.lst (vs ++ [v]))) := Ext.write hm
        exact ⟨_, mt_append, a, vs, v, rfl, rfl, hv, by rw [← rv.length]; exact hl, h ι _ _ xw (rs.write hn ⟨_, upd_same, (rv.append (.cons r .nil)).ext xw⟩) .non⟩
      · exact False.elim h
    · exact False.elim h
  · exact False.elim h
theorem d_pop : MtD X cl "list.pop" dPop := by
  intro W ι H σ Q s dx ds x xs rs rx rds h
  unfold dPop at h
  split at h
  · split at h
    · rename_i ys e
      split at h
      · rename_i d ed
        obtain ⟨a, vs, rfl, hn, hv, rv⟩ := lst_at rs rx e
        cases rds
        have hm := List.mem_of_getElem? hn
        have xw : Ext ι H ι (upd H a (.lst vs.dropLast)) := Ext.write hm
        obtain ⟨v, ev, r⟩ := rv.get ed
        exact ⟨_, mt_pop, a, vs, v, rfl, rfl, hv, by rw [← rv.length]; exact ev, h ι _ _ xw (rs.write hn ⟨_, upd_same, rv.dropLast.ext xw⟩) (r.ext xw)⟩
      · exact False.elim h
    · exact False.elim h
  · exact False.elim h
theorem d_reverse : MtD X cl "list.reverse" dReverse := by
  intro W ι H σ Q s dx ds x xs rs rx rds h
  unfold dReverse at h
  split at h
  · split at h
    · rename_i ys e
      obtain ⟨a, vs, rfl, hn, hv, rv⟩ := lst_at rs rx e
      cases rds
      have hm := List.mem_of_getElem? hn
      have xw : Ext ι H ι (upd H a (.lst vs.reverse)) := Ext.write hm
      exact ⟨_, mt_reverse, a, vs, rfl, rfl, hv, h ι _ _ xw (rs.write hn ⟨_, upd_same, rv.reverse.ext xw⟩) .non⟩
    · exact False.elim h
  · exact False.elim h
theorem strs_rel {K : PySem.W.Frag} {w : World} {ι : List Addr} {H : Hp} : ∀ ys : List Str, RelDs K w cl ι H (ys.map .str) (ys.map V.str)
  | [] => .nil
  | y :: ys => .cons (.str y) (strs_rel ys)
theorem d_split : MtD X cl "str.split" dSplit := by
  intro W ι H σ Q s dx ds x xs rs rx rds h
  unfold dSplit at h
  split at h
  · cases rx
    obtain ⟨v, rfl, r⟩ := rds.one
    cases r
    split at h
    · rename_i a b hl
      refine ⟨_, mt_split, _, _, rfl, rfl, by simpa using hl.1, hl.2, fun p hp => ?_⟩
      obtain ⟨x, y, z⟩ := new_lst rs (strs_rel (Txt.split a b)) hp
      exact h _ _ _ x y z
    · exact False.elim h
  · exact False.elim h
theorem hasTy_ok {K : PySem.W.Frag} {w : World} {ι : List Addr} {H : Hp} {s : S} {d : D} {v : V} {T : String} (rs : RelS K w cl ι s H) (r : RelD K w cl ι H d v) (h : hasTy T s d = true) : tyV K T v H := by
  unfold hasTy at h
  split at h
  · cases r; rfl
  · cases e : lview s d with
    | none => rw [e] at h; cases h
    | some xs =>
      obtain ⟨a, vs, rfl, hl, _⟩ := lview_at rs r e
      exact .inl ⟨rfl, vs, hl.sq⟩
  · cases h
variable {o e : Expr} {es : List Expr} {mo : ME} {ms : MA} {name : Str} {apos cpos : Pos} {T id : String} {g : D → List D → S → R D}
theorem se_mt0 (pa : PlainAttrs T) (slot : Slot T name id) (hty : typeOf (.builtin id) = pure (.type "method_descriptor")) (hm : MtD X cl id g) (ho : SE X cl W o mo)
    (hbase : attributeBase o name X.env (eval o X.env) = eval o X.env := by rfl) (hline : (apos.endLine == cpos.line) = true := by rfl) : SE X cl W (.Call (.Attribute o name apos) [] [] cpos) (mMt T g mo aNil) := by
  obtain ⟨t, p1, q1⟩ := ho.ex
  refine ⟨_, pe_bm0 pa slot hty anyMt p1 hbase hline, fun σ H Q ρ ι s en r h => ?_⟩
  refine q1 σ H _ ρ ι s en r (PoE.step h fun d s1 ι1 H1 v e1 x1 r1 d1 h1 => ?_)
  split at h1
  · rename_i ht
    exact ⟨hasTy_ok r1 d1 ht, hm W ι1 H1 σ Q s1 d [] v [] r1 d1 .nil h1⟩
  · exact False.elim h1
theorem se_mt (pa : PlainAttrs T) (slot : Slot T name id) (hty : typeOf (.builtin id) = pure (.type "method_descriptor")) (hm : MtD X cl id g) (ho : SE X cl W o mo) (ha : SA X cl W (e :: es) ms)
    (hbase : attributeBase o name X.env (eval o X.env) = eval o X.env := by rfl)
    (hfew : ((backTo cpos (starEach (e :: es) X.env)).all (fun x => !x.1) && (backToKw cpos (keywordEach [] X.env)).all (fun x => x.1.isSome) && decide ((e :: es).length + ([] : List Keyword).length + (if ([] : List Keyword).isEmpty then 0 else 1) < 30)) = true := by rfl)
    (hline : (apos.endLine == cpos.line) = true := by rfl) (hs : starEach (e :: es) X.env = (false, eval e X.env) :: starEach es X.env := by rfl) (hplain : (backTo cpos (starEach es X.env)).any (·.1) = false := by rfl) :
    SE X cl W (.Call (.Attribute o name apos) (e :: es) [] cpos) (mMt T g mo ms) := by
  obtain ⟨t, p1, q1⟩ := ho.ex
  obtain ⟨u, p2, q2⟩ := ha.ex
  refine ⟨_, pe_bm pa slot hty anyMt p1 p2 hbase hfew hline hs hplain, fun σ H Q ρ ι s en r h => ?_⟩
  refine q1 σ H _ ρ ι s en r (PoE.step h fun d s1 ι1 H1 v e1 x1 r1 d1 h1 => ?_)
  split at h1
  · rename_i ht
    refine ⟨hasTy_ok r1 d1 ht, q2 σ H1 _ ρ ι1 s1 (en.ext x1) r1 (PoE.stepA h1 fun ds s2 ι2 H2 vs e2 x2 r2 d2 h2 => ?_)⟩
    exact hm W ι2 H2 σ Q s2 d ds v vs r2 (d1.ext x2) d2 h2
  · exact False.elim h1
end
end Pm
namespace Pm
open PySem PySem.Spec PyProof.Rows L2

/-! ### zip of two things, each a text, a list or a tuple -/
/-- what a zip walks -/
inductive Src where
  | str (x : Str) | lst (a : Addr) | tup (a : Addr)
def Src.val : Src → V
  | .str x => .str x
  | .lst a => .ref a
  | .tup a => .ref a
def Src.ads : Src → List Addr
  | .str _ => []
  | .lst a => [a]
  | .tup a => [a]
def Vw (K : PySem.W.Frag) (H : Hp) : Src → List V → Prop
  | .str x, vs => vs = x.cps.toList.map fun c => V.str ⟨#[c]⟩
  | .lst a, vs => SqL K H a vs
  | .tup a, vs => SqT K H a vs
def StI : Src → Addr → Tok → Nat → Heap → Prop
  | .str x, it, t, i, h => h.IsStrIter it (strIterType x) x t i
  | .lst a, it, _, i, h => h.IsListIter it a i
  | .tup a, it, _, i, h => h.IsTupleIter it a i
section
variable {X : Cx} {pins : List (Addr × Obj)} {σ : L2.St} {H : Hp} {s : Shared}
theorem StI.keep {q : Src} {it : Addr} {t : Tok} {i : Nat} {h h' : Heap} (st : StI q it t i h) (k : ∀ o, h.get? it = some o → h'.get? it = some o) : StI q it t i h' := by
  cases q with
  | str x => obtain ⟨o, e, r⟩ := st; exact ⟨o, k o e, r⟩
  | lst a => exact Heap.IsListIter.at st fun o e => k o e
  | tup a => exact Heap.IsTupleIter.at st fun o e => k o e
theorem StI.obj {q : Src} {it : Addr} {t : Tok} {i : Nat} {h : Heap} (st : StI q it t i h) : ∃ o, h.get? it = some o ∧ ∀ v, o.data ≠ .cell v := by
  cases q <;> (obtain ⟨o, e, _, d⟩ := st; exact ⟨o, e, fun v z => by rw [d] at z; cases z⟩)
/-- what such an iterator draws, its source as it stands now -/
theorem drawn {q : Src} {it : Addr} {t : Tok} {i : Nat} {vs : List V} (I : Inv X pins σ H s) (hc : X.calm = true) (hv : Vw X.K H q vs) (hne : it ∉ q.ads) (st : StI q it t i s.heap) :
    ∃ (P : Nat → Value → Prop) (St : Nat → Heap → Prop), Draws X.prog X.w X.A.in1 it (it :: q.ads) vs.length P St ∧ St i s.heap ∧ (∀ j u, P j u → ∃ x, vs[j]? = some x ∧ RelV x u) ∧ ∀ j h, St j h → StI q it t j h := by
  have hh : X.A.in1.handled = none := I.ok.hd hc
  cases q with
  | str x =>
    have D := Draws.text (prog := X.prog) (w := X.w) hh it x t
    have hl : x.cps.size = vs.length := by rw [show vs = _ from hv]; simp
    rw [hl] at D
    refine ⟨_, _, D, st, fun j u ⟨c, k, e, z⟩ => ⟨.str ⟨#[c]⟩, ?_, k, z⟩, fun j h z => z⟩
    rw [show vs = _ from hv, List.getElem?_map, Array.getElem?_toList, e]
    rfl
  | lst a =>
    obtain ⟨its, r, p, _⟩ := I.list hv
    have D := Draws.list (prog := X.prog) (w := X.w) hh it a (fun z => hne (by simp [Src.ads, z])) its.toArray
    have hl : its.toArray.size = vs.length := by rw [List.size_toArray]; exact r.length.symm
    rw [hl] at D
    refine ⟨_, _, D, ⟨st, p.isList⟩, fun j u e => ?_, fun j h z => z.1⟩
    have e' : its[j]? = some u := by simpa using e
    cases hx : vs[j]? with
    | none =>
      have h1 := List.getElem?_eq_none_iff.mp hx
      have h2 := (List.getElem?_eq_some_iff.mp e').1
      have h3 := r.length
      omega
    | some x =>
      obtain ⟨u2, e2, rx⟩ := r.get hx
      rw [e'] at e2
      cases e2
      exact ⟨x, rfl, rx⟩
  | tup a =>
    obtain ⟨its, r, p, _⟩ := I.tuple hv
    have D := Draws.tuple (prog := X.prog) (w := X.w) hh it a (fun z => hne (by simp [Src.ads, z])) its.toArray
    have hl : its.toArray.size = vs.length := by rw [List.size_toArray]; exact r.length.symm
    rw [hl] at D
    refine ⟨_, _, D, ⟨st, p⟩, fun j u e => ?_, fun j h z => z.1⟩
    have e' : its[j]? = some u := by simpa using e
    cases hx : vs[j]? with
    | none =>
      have h1 := List.getElem?_eq_none_iff.mp hx
      have h2 := (List.getElem?_eq_some_iff.mp e').1
      have h3 := r.length
      omega
    | some x =>
      obtain ⟨u2, e2, rx⟩ := r.get hx
      rw [e'] at e2
      cases e2
      exact ⟨x, rfl, rx⟩
theorem Vw.inj {q : Src} {xs ys : List V} (I : Inv X pins σ H s) (h : Vw X.K H q xs) (h' : Vw X.K H q ys) : xs = ys := by
  cases q with
  | str x => rw [show xs = _ from h, show ys = _ from h']
  | lst a => exact I.list_inj h h'
  | tup a => exact I.tuple_inj h h'
/-- how such an iterator begins -/
theorem begun {q : Src} {vs : List V} {u : Value} (I : Inv X pins σ H s) (hv : Vw X.K H q vs) (ru : RelV q.val u) :
    ∃ (o : Obj) (G : Heap → Prop) (t : Tok), Begins u o G ∧ G s.heap ∧ (∀ b ∈ q.ads, b < s.heap.objs.size) ∧ ∀ it h, h.get? it = some o → StI q it t 0 h := by
  cases q with
  | str x =>
    obtain ⟨t, rfl⟩ := ru
    exact ⟨_, _, t, begins_text x t, trivial, fun b hb => (nomatch hb), fun it h e => ⟨_, e, rfl, rfl⟩⟩
  | lst a =>
    obtain ⟨its, r, p, _⟩ := I.list hv
    cases ru
    exact ⟨_, _, 0, begins_list a its.toArray, p.isList, fun b hb => by rw [List.mem_singleton.mp hb]; exact p.lt, fun it h e => ⟨_, e, rfl, rfl⟩⟩
  | tup a =>
    obtain ⟨its, r, p, _⟩ := I.tuple hv
    cases ru
    refine ⟨_, _, 0, begins_tuple a its.toArray, p, fun b hb => ?_, fun it h e => ⟨_, e, rfl, rfl⟩⟩
    obtain ⟨o, e, _⟩ := p
    rw [List.mem_singleton.mp hb]
    exact Heap.lt_size e
end
/-- the sources as they stand at each turn, the items in new pairs -/
def Itp (K : PySem.W.Frag) (p q : Src) : It :=
  ⟨fun i H => ∃ (xs ys : List V), Vw K H p xs ∧ Vw K H q ys ∧ i < xs.length ∧ i < ys.length,
    fun i H v H' => ∃ T x y, v = .ref T ∧ H T = none ∧ H' = upd H T (.tup [x, y]) ∧ (∀ xs, Vw K H p xs → xs[i]? = some x) ∧ ∀ ys, Vw K H q ys → ys[i]? = some y,
    fun i H => ∃ xs ys : List V, Vw K H p xs ∧ Vw K H q ys ∧ i = min xs.length ys.length⟩
theorem turn_zipG {P : Program} {w : World} {K : PySem.W.Frag} {elts : List Expr} {kk : Nat} {tpos : Pos} {p q : Src} {N : Nat} {t1 t2 : Tok} (hp : ∀ b ∈ p.ads, b < N) (hq : ∀ b ∈ q.ads, b < N) :
    Turn P w K (.Tuple elts kk tpos) (Itp K p q) [N + 4, N + 2, N + 3, N, N + 1] (N + 4)
      (fun i h => IsZip h (N + 4) (N + 2) (N + 3) .none ∧ IsTupOf2 h (N + 2) (.ref N) (.ref (N + 1)) ∧ (∃ x y, IsTupOf2 h (N + 3) x y) ∧ StI p N t1 i h ∧ StI q (N + 1) t2 i h) where
  mem := by simp
  obj := fun i h st c hc => by
    obtain ⟨hz, hTI, ⟨x, y, hTO⟩, s1, s2⟩ := st
    have e' : c = N + 4 ∨ c = N + 2 ∨ c = N + 3 ∨ c = N ∨ c = N + 1 := by simpa using hc
    rcases e' with e | e | e | e | e
    · rw [e]; exact ⟨_, hz, fun v z => nomatch z⟩
    · rw [e]; exact ⟨_, hTI, fun v z => nomatch z⟩
    · rw [e]; exact ⟨_, hTO, fun v z => nomatch z⟩
    · rw [e]; exact s1.obj
    · rw [e]; exact s2.obj
  keep := fun i h h' ⟨hz, hTI, ⟨x, y, hTO⟩, s1, s2⟩ k =>
    ⟨k (N + 4) (by simp) _ hz, k (N + 2) (by simp) _ hTI, ⟨x, y, k (N + 3) (by simp) _ hTO⟩, s1.keep (k N (by simp)), s2.keep (k (N + 1) (by simp))⟩
  item := by
    intro X hP hw hK hc i pins s σ H E I hf ⟨hz, hTI, hTO, s1, s2⟩ ⟨xs, ys, hx, hy, l1, l2⟩
    subst hP hw hK
    have n1 : N ∉ p.ads := fun z => Nat.lt_irrefl _ (hp _ z)
    have n2 : N + 1 ∉ q.ads := fun z => absurd (show N + 1 < N from hq _ z) (by omega)
    obtain ⟨P1, St1, D1, g1, r1, b1⟩ := drawn I hc hx n1 s1
    obtain ⟨P2, St2, D2, g2, r2, b2⟩ := drawn I hc hy n2 s2
    have hlt : ∀ c ∈ [N + 4, N + 2, N + 3, N, N + 1], c < s.heap.objs.size := fun c hcm => by
      have e' : c = N + 4 ∨ c = N + 2 ∨ c = N + 3 ∨ c = N ∨ c = N + 1 := by simpa using hcm
      have h4 : N + 4 < s.heap.objs.size := Heap.lt_size hz
      rcases e' with e | e | e | e | e <;> (rw [e]; omega)
    refine (GoesN.zip2 (zip_sep2 hp hq) D1 D2).goes i s _ _ (Nat.lt_min.mpr ⟨l1, l2⟩) ⟨hz, hTI, hTO, g1, g2⟩ fun v h' tk ⟨T, x, y, ev, hT, hx1, hy1, hTup⟩ ⟨z', TI', TO', g1', g2'⟩ hk _ => ?_
    subst ev
    obtain ⟨vx, ex, rx⟩ := r1 _ _ hx1
    obtain ⟨vy, ey, ry⟩ := r2 _ _ hy1
    have new : ObjOk X.prog X.w (upd H T (.tup [vx, vy])) h' T (.tup [vx, vy]) := ⟨by show 2 ≤ sizeLine; decide, [x, y], .cons rx (.cons ry .nil), hTup⟩
    have I1 : Inv X pins σ (upd H T (.tup [vx, vy])) { s with heap := h', toks := tk } :=
      I.turnedNew (ch := [N + 4, N + 2, N + 3, N, N + 1]) (fun c o hb e => hk c o (fun z => hb (by
        have e' : c = N + 4 ∨ c = N + 3 ∨ c = N ∨ c = N + 1 := by simpa using z
        rcases e' with e | e | e | e <;> simp [e])) e) hf hT new
    refine ⟨.ref T, _, I1, rfl, ⟨T, vx, vy, rfl, I.hok.fresh hT, rfl, fun l hl => by rw [hl.inj I hx]; exact ex, fun l hl => by rw [hl.inj I hy]; exact ey⟩, ⟨z', TI', TO', b1 _ _ g1', b2 _ _ g2'⟩, fun c hcm => ?_⟩
    rw [upd_ne (Nat.ne_of_lt (Nat.lt_of_lt_of_le (hlt c hcm) hT))]
    exact (hf c hcm).1
  done := by
    intro X hP hw hK hc i pins s σ H E I hf ⟨hz, hTI, hTO, s1, s2⟩ ⟨xs, ys, hx, hy, hi⟩
    subst hP hw hK
    have n1 : N ∉ p.ads := fun z => Nat.lt_irrefl _ (hp _ z)
    have n2 : N + 1 ∉ q.ads := fun z => absurd (show N + 1 < N from hq _ z) (by omega)
    obtain ⟨P1, St1, D1, g1, r1, b1⟩ := drawn I hc hx n1 s1
    obtain ⟨P2, St2, D2, g2, r2, b2⟩ := drawn I hc hy n2 s2
    refine (GoesN.zip2 (elts := elts) (x1 := kk) (pos := tpos) (zip_sep2 hp hq) D1 D2).stops s (fun s1 => Inv X pins σ H s1) _ (by rw [← hi]; exact ⟨hz, hTI, hTO, g1, g2⟩) fun h' tk hk _ => ?_
    exact I.turnedL (ch := [N + 4, N + 2, N + 3, N, N + 1]) (fun c o hb e => hk c o (fun z => hb (by
        have e' : c = N + 4 ∨ c = N + 3 ∨ c = N ∨ c = N + 1 := by simpa using z
        rcases e' with e | e | e | e <;> simp [e])) e) hf
  self := fun A i s Q E st h => wpAny_pyIter_zip st.1 h
def tiZip (K : PySem.W.Frag) (ta : TA) : TI := fun σ H R => ta σ H fun vs H1 => ∃ p q xs ys, vs = [p.val, q.val] ∧ Vw K H1 p xs ∧ Vw K H1 q ys ∧ R (Itp K p q) H1
theorem pi_zipG {X : Cx} {e e2 : Expr} {ta : TA} {p pos tpos : Pos} {elts : List Expr} {kk : Nat} (hg : Gl X "zip") (hm : X.mg "zip" = none) (ha : PA X [e, e2] ta)
    (hs : starEach [e, e2] X.env = (false, eval e X.env) :: starEach [e2] X.env := by rfl) (hpl : (backTo pos (starEach [e2] X.env)).any (·.1) = false := by rfl) :
    PI X (.Tuple elts kk tpos) (.Call (.Name "zip" p) [e, e2] [] pos) (tiZip X.K ta) := by
  refine ⟨fun pins s σ H R I h => ?_⟩
  refine Call_ (ld_blt I hg hm boot_zip (callWith_type1 (thn (ha.run pos pins s σ H _ I h) fun us s1 ⟨vs, H1, I1, r1, p1, p2, xs, ys, ev, hx, hy, q⟩ => ?_) hs hpl))
  subst ev
  cases r1 with
  | @cons _ u1 _ _ ru1 rr => cases rr with
    | @cons _ u2 _ _ ru2 rr => cases rr with
      | nil =>
        obtain ⟨o1, G1, t1, B1, g1, a1, st1⟩ := begun I1 hx ru1
        obtain ⟨o2, G2, t2, B2, g2, a2, st2⟩ := begun I1 hy ru2
        refine zip_begins2 B1 B2 g1 g2 fun h' hz hTI hTO e1 e2 hsz hk => wpAny_pyIter_zip hz ?_
        have I2 : Inv X pins σ H1 { s1 with heap := h' } := I1.kept (t' := s1.toks) hk
        refine ⟨s1.heap.objs.size + 4, [s1.heap.objs.size + 4, s1.heap.objs.size + 2, s1.heap.objs.size + 3, s1.heap.objs.size, s1.heap.objs.size + 1], _, _, H1, rfl, I2, turn_zipG a1 a2, ⟨hz, hTI, ⟨_, _, hTO⟩, st1 _ _ e1, st2 _ _ e2⟩, fun c hcm => ?_, q⟩
        have e' : c = s1.heap.objs.size + 4 ∨ c = s1.heap.objs.size + 2 ∨ c = s1.heap.objs.size + 3 ∨ c = s1.heap.objs.size ∨ c = s1.heap.objs.size + 1 := by simpa using hcm
        have hle : s1.heap.objs.size ≤ c := by
          rcases e' with e | e | e | e | e <;> (rw [e]; omega)
        exact I1.fpOk hle (I1.hok.fresh hle)

/-! over data -/
/-- finished sequences and texts -/
def fview : D → Option (List D)
  | .str x => some (x.cps.toList.map fun c => .str ⟨#[c]⟩)
  | .tup xs => some xs
  | .lst xs => some xs
  | _ => none
def zipD : List D → List D → List D
  | x :: xs, y :: ys => .tup [x, y] :: zipD xs ys
  | _, _ => []
def iZipD (ma mb : ME) : MI := fun ρ s => (ma ρ s).bind fun d s1 => (mb ρ s1).bind fun e s2 => match fview d, fview e with
  | some xs, some ys => .ok (zipD xs ys, none) s2
  | _, _ => .bad
theorem zipD_length : ∀ xs ys : List D, (zipD xs ys).length = min xs.length ys.length
  | [], _ => by simp [zipD]
  | _ :: _, [] => by simp [zipD]
  | x :: xs, y :: ys => by simp [zipD, zipD_length xs ys]
theorem zipD_get : ∀ {xs ys : List D} {i : Nat} {x y : D}, xs[i]? = some x → ys[i]? = some y → (zipD xs ys)[i]? = some (.tup [x, y])
  | [], _, _, _, _, h, _ => by simp at h
  | _ :: _, [], _, _, _, _, h => by simp at h
  | a :: xs, b :: ys, 0, x, y, h, g => by simp at h g; simp [zipD, h, g]
  | a :: xs, b :: ys, i + 1, x, y, h, g => by simpa [zipD] using zipD_get (by simpa using h) (by simpa using g)
section
variable {K : PySem.W.Frag} {w : World} {cl : Cl} {ι : List Addr} {H : Hp}
theorem chars_rel : ∀ cs : List Nat, RelDs K w cl ι H (cs.map fun c => D.str ⟨#[c]⟩) (cs.map fun c => V.str ⟨#[c]⟩)
  | [] => .nil
  | c :: cs => .cons (.str _) (chars_rel cs)
/-- the source of a finished thing: as it stands now and later -/
theorem fview_src {d : D} {v : V} {xs : List D} (r : RelD K w cl ι H d v) (h : fview d = some xs) : ∃ q : Src, v = q.val ∧ ∃ vs, (∀ z ι2 H2, Ext ι H ι2 (hd z H2) → Vw K H2 q vs ∧ RelDs K w cl ι2 (hd z H2) xs vs) := by
  cases r <;> simp only [fview] at h <;> first
    | (cases h; done)
    | skip
  · rename_i x
    cases h
    exact ⟨.str x, rfl, _, fun z ι2 H2 _ => ⟨rfl, chars_rel _⟩⟩
  · rename_i a vs h1 r1
    cases h
    exact ⟨.tup a, rfl, _, fun z ι2 H2 x => ⟨(h1.ext x).act, r1.ext x⟩⟩
  · rename_i a vs h1 r1
    cases h
    exact ⟨.lst a, rfl, _, fun z ι2 H2 x => ⟨(h1.ext x).act, r1.ext x⟩⟩
theorem hd_upd2 {z : Option Addr} {T : Addr} {o : HO} (hT : H T = none) (hz : ∀ a, z = some a → H a ≠ none) : hd z (upd H T o) = upd (hd z H) T o := by
  cases z with
  | none => rfl
  | some a =>
    have hne : T ≠ a := fun e => hz a rfl (by rw [← e]; exact hT)
    funext b
    by_cases hb : b = a
    · rw [hb, hd_self, upd_ne (Ne.symm hne), hd_self]
    · rw [hd_ne hb]
      by_cases hbT : b = T
      · rw [hbT, upd_same, upd_same]
      · rw [upd_ne hbT, upd_ne hbT, hd_ne hb]
theorem hd_none' {z : Option Addr} {T : Addr} (hT : H T = none) : hd z H T = none := by
  cases z with
  | none => exact hT
  | some a =>
    by_cases hb : T = a
    · rw [hb, hd_self]
    · rw [hd_ne hb]; exact hT
theorem zip_ok {xs ys : List D} {p q : Src} {ι1 : List Addr} {H1 : Hp} {vs us : List V} (h1 : ∀ z ι2 H2, Ext ι1 H1 ι2 (hd z H2) → Vw K H2 p vs ∧ RelDs K w cl ι2 (hd z H2) xs vs) (h2 : ∀ z ι2 H2, Ext ι1 H1 ι2 (hd z H2) → Vw K H2 q us ∧ RelDs K w cl ι2 (hd z H2) ys us) :
    ItOk K w cl (zipD xs ys, none) (Itp K p q) ι1 H1 := by
  intro z i ι2 H2 s2 hz x2 r2 _
  obtain ⟨a1, b1⟩ := h1 z ι2 H2 x2
  obtain ⟨a2, b2⟩ := h2 z ι2 H2 x2
  refine ⟨fun hi => ?_, fun hi => ⟨vs, us, a1, a2, by rw [← b1.length, ← b2.length, ← zipD_length]; exact hi⟩⟩
  have hi' : i < min xs.length ys.length := by rw [← zipD_length]; exact hi
  obtain ⟨l1, l2⟩ := Nat.lt_min.mp hi'
  refine ⟨⟨vs, us, a1, a2, by rw [← b1.length]; exact l1, by rw [← b2.length]; exact l2⟩, fun x H' ⟨T, vx, vy, ev, hT, eH, f1, f2⟩ => ?_⟩
  subst ev eH
  obtain ⟨v1, e1, q1⟩ := b1.get (List.getElem?_eq_getElem l1)
  obtain ⟨v2, e2, q2⟩ := b2.get (List.getElem?_eq_getElem l2)
  have g1 := f1 vs a1
  have g2 := f2 us a2
  rw [e1] at g1
  rw [e2] at g2
  cases g1
  cases g2
  obtain ⟨n1, n2, n3⟩ := new_tup r2 (.cons q1 (.cons q2 .nil)) (hd_none' (z := z) hT)
  rw [hd_upd2 hT hz]
  exact ⟨fun a ea => upd_ne fun e => hz a ea (by rw [e]; exact hT), _, zipD_get (List.getElem?_eq_getElem l1) (List.getElem?_eq_getElem l2), n1, n2, n3⟩
end
section
variable {X : Cx} {cl : Cl} {W : Wish} {pos p tpos : Pos} {e e2 : Expr} {m mb : ME} {elts : List Expr} {kk : Nat}
theorem si_zip (hg : Gl X "zip") (hm : X.mg "zip" = none) (he : SE X cl W e m) (hb : SE X cl W e2 mb) (hs : starEach [e, e2] X.env = (false, eval e X.env) :: starEach [e2] X.env := by rfl) (hs2 : starEach [e2] X.env = (false, eval e2 X.env) :: starEach [] X.env := by rfl)
    (hpl : (backTo pos (starEach [e2] X.env)).any (·.1) = false := by rfl) : SI X cl W (.Tuple elts kk tpos) (.Call (.Name "zip" p) [e, e2] [] pos) (iZipD m mb) := by
  obtain ⟨t, p1, q1⟩ := he.ex
  obtain ⟨u, p2, q2⟩ := hb.ex
  refine ⟨_, pi_zipG hg hm (pa_cons p1 (pa_cons p2 pa_nil hs2) hs) hs hpl, fun σ H Q ρ ι s en r h => ?_⟩
  unfold iZipD at h
  refine q1 σ H _ ρ ι s en r ?_
  cases e1 : m ρ s with
  | bad => rw [e1] at h; exact h
  | exc x s1 => rw [e1] at h; exact h
  | ok d s1 =>
  rw [e1] at h
  intro ι1 H1 v x1 r1 rd
  simp only [R.bind] at h
  refine q2 σ H1 _ ρ ι1 s1 (en.ext x1) r1 ?_
  cases e3 : mb ρ s1 with
  | bad => rw [e3] at h; exact h
  | exc x s2 => rw [e3] at h; exact fun ι2 H2 c dd x2 => h ι2 H2 c dd (x1.trans x2)
  | ok d2 s2 =>
  rw [e3] at h
  intro ι2 H2 v2 x2 r2 rd2
  simp only at h
  cases f1 : fview d with
  | none => rw [f1] at h; exact False.elim h
  | some xs =>
  cases f2 : fview d2 with
  | none => rw [f1, f2] at h; exact False.elim h
  | some ys =>
  rw [f1, f2] at h
  obtain ⟨s1', ev1, vs, g1⟩ := fview_src (rd.ext x2) f1
  obtain ⟨s2', ev2, us, g2⟩ := fview_src rd2 f2
  subst ev1 ev2
  exact ⟨s1', s2', vs, us, rfl, (g1 none ι2 H2 (Ext.refl _ _)).1, (g2 none ι2 H2 (Ext.refl _ _)).1, h ι2 H2 _ (x1.trans x2) r2 (zip_ok g1 g2)⟩
end
end Pm
namespace Pm
open PySem PySem.Spec PyProof.Rows L2

/-! ### written dicts -/
/-- the entries as the top lays them -/
def mkEs (w : World) (us : List (Str × Tok × Value)) : Array DictEntry := (us.map fun p => ({ hash := PyData.keyHash w.params p.1, key := .str p.1 p.2.1, val := p.2.2 } : DictEntry)).toArray
section
variable {K : PySem.W.Frag} {w : World} {a : Addr}
theorem mkEs_lit : ∀ us : List (Str × Tok × Value), PySem.W.KeysLit w.params (us.map fun p => ({ hash := PyData.keyHash w.params p.1, key := .str p.1 p.2.1, val := p.2.2 } : DictEntry))
  | [] => trivial
  | p :: us => ⟨⟨p.1, p.2.1, rfl, rfl⟩, mkEs_lit us⟩
theorem mkEs_find (z : Str) : ∀ us : List (Str × Tok × Value), ((us.map fun p => ({ hash := PyData.keyHash w.params p.1, key := .str p.1 p.2.1, val := p.2.2 } : DictEntry)).find? (·.key.isStr z)).map (·.val) = (us.map fun p => (p.1, p.2.2)).lookup z
  | [] => rfl
  | p :: us => by
    have ih := mkEs_find z us
    rw [List.map_cons, List.map_cons, List.find?_cons, List.lookup_cons]
    have e : Value.isStr (Value.str p.1 p.2.1) z = (z == p.1) := by
      show (p.1 == z) = (z == p.1)
      rw [Bool.eq_iff_iff]
      constructor <;> intro h <;> exact beq_iff_eq.mpr (beq_iff_eq.mp h).symm
    simp only [e]
    cases z == p.1 with
    | true => rfl
    | false => exact ih
theorem mkEs_noref : ∀ us : List (Str × Tok × Value), (us.map fun p => ({ hash := PyData.keyHash w.params p.1, key := .str p.1 p.2.1, val := p.2.2 } : DictEntry)).any (·.refKey) = false
  | [] => rfl
  | p :: us => by rw [List.map_cons, List.any_cons, mkEs_noref us]; rfl
theorem kdx_of {us : List (Str × Tok × Value)} {vs : List (Str × V)} {n : Nat} (h : K.lookup a = some ⟨.type "dict", none, .dict (mkEs w us) n, #[]⟩) (low : (a == sysModules) = false)
    (r : Paired (fun (p : Str × V) (q : Str × Value) => p.1 = q.1 ∧ RelV p.2 q.2) vs (us.map fun p => (p.1, p.2.2))) : KDx K w a vs := by
  refine ⟨_, n, _, h, by unfold mkEs; exact mkEs_lit us, low, fun z => ?_, r⟩
  have e1 := mkEs_find (w := w) z us
  have e2 := mkEs_noref (w := w) us
  unfold PySem.W.nsIn
  rw [h]
  dsimp only
  unfold mkEs
  rw [e2]
  cases hf : (us.map fun p => ({ hash := PyData.keyHash w.params p.1, key := .str p.1 p.2.1, val := p.2.2 } : DictEntry)).find? (·.key.isStr z) with
  | none => rw [hf] at e1; rw [← e1]; simp
  | some e => rw [hf] at e1; rw [← e1]; rfl
/-- a tuple, a list of the written part -/
theorem st_K {ι : List Addr} {H : Hp} {o : Obj} {its : Array Value} {n : Nat} {xs : List V} (h : K.lookup a = some o) (hc : o.cls = .type "tuple") (hd : o.data = .seq its n) (hz : its.size ≤ sizeLine) (r : Vals xs its.toList) : ST K ι H a xs := .inr ⟨o, its, n, h, hc, hd, hz, r⟩
theorem sl_K {ι : List Addr} {H : Hp} {o : Obj} {its : Array Value} {n : Nat} {xs : List V} (h : K.lookup a = some o) (hc : o.cls = .type "list") (hn : o.dict = none) (hd : o.data = .seq its n) (hz : its.size ≤ sizeLine) (r : Vals xs its.toList) : SL K ι H a xs := .inr ⟨o, its, n, h, hc, hn, hd, hz, r⟩
end
/-- d.get(k) -/
def mGet (mo mk : ME) : ME := fun ρ s => (mo ρ s).bind fun x s1 => match x with
  | .dic kvs => (mk ρ s1).bind fun y s2 => (match y with
    | .str z => (match kvs.lookup z with
      | some d => .ok d s2
      | none => .ok .non s2)
    | _ => .bad)
  | _ => .bad
section
variable {X : Cx} {cl : Cl} {W : Wish} {o e : Expr} {mo mk : ME} {apos cpos : Pos}
def tGet (K : PySem.W.Frag) (w : World) (to te : TE) : TE := fun σ H Q => to σ H fun x H1 => ∃ (p : Addr) (es : Array DictEntry) (n : Nat), x = .ref p ∧ KDict K w p es n ∧ te σ H1 fun y H2 => ∃ (z : Str) (r : Option Value) (v : V), y = .str z ∧ PySem.W.nsIn K p z = some r ∧ RelV v (r.getD .none) ∧ Q v H2
theorem pe_get {to te : TE} (ho : PE X o to) (he : PE X e te)
    (hbase : attributeBase o "get" X.env (eval o X.env) = eval o X.env := by rfl)
    (hfew : ((backTo cpos (starEach (e :: []) X.env)).all (fun x => !x.1) && (backToKw cpos (keywordEach [] X.env)).all (fun x => x.1.isSome) && decide ((e :: []).length + ([] : List Keyword).length + (if ([] : List Keyword).isEmpty then 0 else 1) < 30)) = true := by rfl)
    (hline : (apos.endLine == cpos.line) = true := by rfl) (hs : starEach (e :: []) X.env = (false, eval e X.env) :: starEach [] X.env := by rfl) (hplain : (backTo cpos (starEach [] X.env)).any (·.1) = false := by rfl) :
    PE X (.Call (.Attribute o "get" apos) [e] [] cpos) (tGet X.K X.w to te) := by
  refine ⟨fun pins s σ H Q I h => ?_⟩
  refine wpAny_Call_method_late hbase hfew hline rfl (thn (ho.run pins s σ H _ I h) fun v s1 ⟨x, H1, I1, r1, p, es, n, ex, D, q1⟩ => ?_)
  subst ex
  obtain rfl : v = Value.ref p := r1
  have hm1 := PySem.W.mapOf_K (prog := X.prog) (w := X.w) I1.kIn D.at_ D.lit
  refine ⟨"dict", "dict.get", PySem.F.plainAttrs_dict, PySem.F.slot_dict_get, PySem.F.type_dict_get, hm1.typeIs, hm1.noDict, ?_⟩
  have hA := (pa_cons he pa_nil hs).run cpos pins s1 σ H1 (fun vs H2 => ∃ y, vs = [y] ∧ ∃ (z : Str) (r : Option Value) (v : V), y = .str z ∧ PySem.W.nsIn X.K p z = some r ∧ RelV v (r.getD .none) ∧ Q v H2) I1 (by
    show te σ H1 _
    refine Eq.mp (congrArg (te σ H1) ?_) q1
    funext y H2
    exact propext ⟨fun k => ⟨y, rfl, k⟩, fun ⟨y', e1, k⟩ => by cases e1; exact k⟩)
  rw [hs] at hA ⊢
  refine Calls.callWith_builtin (by show (false || (backTo cpos (starEach [] X.env)).any (·.1)) = false; rw [hplain] <;> rfl) (Calls.evalArgs_plain ?_)
  refine thn hA fun us s2 ⟨vs, H2, I2, r2, y, ev, z, r, v, ey, en, rv, q2⟩ => ?_
  subst ev ey
  cases r2 with
  | cons ru rr =>
    cases rr
    obtain ⟨t, rfl⟩ := ru
    have hm2 := PySem.W.mapOf_K (prog := X.prog) (w := X.w) I2.kIn D.at_ D.lit
    refine call_meetsIn PySem.F.slot_dict_get hm2.typeIs PySem.F.entry_dict_get (PySem.F.args_dict_get_2 _ _) (meets_dict_get (strKind X.prog X.w) p (strKind_is X.prog X.w z t) D.low) ⟨_, hm2, ?_⟩
    rw [PySem.W.find_K D.at_ en]
    exact ⟨v, H2, I2.tok _, rv, q2⟩
theorem se_get (ho : SE X cl W o mo) (he : SE X cl W e mk)
    (hbase : attributeBase o "get" X.env (eval o X.env) = eval o X.env := by rfl)
    (hfew : ((backTo cpos (starEach (e :: []) X.env)).all (fun x => !x.1) && (backToKw cpos (keywordEach [] X.env)).all (fun x => x.1.isSome) && decide ((e :: []).length + ([] : List Keyword).length + (if ([] : List Keyword).isEmpty then 0 else 1) < 30)) = true := by rfl)
    (hline : (apos.endLine == cpos.line) = true := by rfl) (hs : starEach (e :: []) X.env = (false, eval e X.env) :: starEach [] X.env := by rfl) (hplain : (backTo cpos (starEach [] X.env)).any (·.1) = false := by rfl) :
    SE X cl W (.Call (.Attribute o "get" apos) [e] [] cpos) (mGet mo mk) := by
  obtain ⟨t, p1, q1⟩ := ho.ex
  obtain ⟨u, p2, q2⟩ := he.ex
  refine ⟨_, pe_get p1 p2 hbase hfew hline hs hplain, fun σ H Q ρ ι s en r h => ?_⟩
  refine q1 σ H _ ρ ι s en r (PoE.step h fun d s1 ι1 H1 v e1 x1 r1 d1 h1 => ?_)
  cases d1 with
  | @dic kvs a vs hk rk =>
    obtain ⟨es, n, us, k1, k2, k3, k4, k5⟩ := hk
    refine ⟨a, es, n, rfl, ⟨k1, k2, k3⟩, q2 σ H1 _ ρ ι1 s1 (en.ext x1) r1 (PoE.step h1 fun d2 s2 ι2 H2 v2 e2 x2 r2 dd2 h2 => ?_)⟩
    cases dd2 with
    | str z =>
      simp only at h2
      have kl := kdx_lookup (RelFs.ext x2 rk) z
      have pl := paired_lookup k5 z
      cases e3 : kvs.lookup z with
      | none =>
        rw [e3] at kl h2
        simp only at kl h2
        rw [kl] at pl
        simp only at pl
        exact ⟨z, _, .non, rfl, k4 z, by rw [pl]; rfl, h2 ι2 H2 .non (Ext.refl _ _) r2 .non⟩
      | some d =>
        rw [e3] at kl h2
        simp only at kl h2
        obtain ⟨v3, e4, rd⟩ := kl
        rw [e4] at pl
        obtain ⟨u3, e5, rv⟩ := pl
        exact ⟨z, _, v3, rfl, k4 z, by rw [e5]; exact rv, h2 ι2 H2 v3 (Ext.refl _ _) r2 rd⟩
    | _ => exact False.elim h2
  | _ => exact False.elim h1
end
/-! ### room -/
theorem room_u {A : Around} {k : Nat} (hr : Room k A) : A.units + 64 < cLine := hr.units
theorem room_u1 {A : Around} {k : Nat} (hr : Room k A) : A.units + 65 < cLine := by have := hr.un; omega
theorem mkFn_arity {n tot : Nat} {m : MS} : ∀ ds s, ds.length ≠ n → mkFn n tot m ds s = .bad := fun ds s h => by unfold mkFn; rw [if_neg h]
theorem mkFz_arity {n : Nat} {F : List D → S → R D} (h : ∀ ds s, ds.length ≠ n → F ds s = .bad) : ∀ ds s, ds.length ≠ n → mkFz F ds s = .bad := fun ds s hl => by unfold mkFz; rw [h ds s hl]; rfl
end Pm
namespace Pm
open PySem PySem.Spec PyProof.Rows L2

/-! ### attributes of classes -/
section
variable {K : PySem.W.Frag} {cl : Cl} {f : Str}
theorem na_nil : ∀ c ∈ ([] : List Str), ∀ A, cl c = some A → NoAttr K A f := fun c hc => nomatch hc
theorem na_cons {c : Str} {C : Addr} {cs : List Str} (h : cl c = some C) (n : NoAttr K C f) (r : ∀ c ∈ cs, ∀ A, cl c = some A → NoAttr K A f) : ∀ c' ∈ c :: cs, ∀ A, cl c' = some A → NoAttr K A f := fun c' hc A hA => by
  rcases List.mem_cons.mp hc with e | hc
  · subst e
    rw [h] at hA
    cases hA
    exact n
  · exact r c' hc A hA
end
/-! ### the law's end -/
theorem ints_rel {K : PySem.W.Frag} {w : World} {cl : Cl} {ι : List Addr} {H : Hp} : ∀ ns : List Int, RelDs K w cl ι H (ns.map .int) (ns.map V.int)
  | [] => .nil
  | n :: ns => .cons (.int n) (ints_rel ns)
theorem RelS.empty {K : PySem.W.Frag} {w : World} {cl : Cl} {H : Hp} : RelS K w cl [] [] H := ⟨rfl, .nil, fun n o e => by simp at e⟩
theorem walk_pm {l : PySem.W.OpenLaw} {n k : Nat} {q : Program} {loose : List Str} {XP : (Str → Option Value) → Heap → Prop} {YP : World → Heap → Prop} {d : DefRec} {K : Params → PySem.W.Frag} {f : List D → S → R D}
    (hn : l.most = some n) (hn2 : n ≤ sizeLine) (hdf : d.params.defaults = []) (hr : Room k callerA)
    (hY : ∀ (w : World) (h : Heap), YP w h → (K w.params).In h)
    (F : ∀ (w : World) (mg : Str → Option Value) (fa : Addr) (h : Heap), (K w.params).In h → h.Ns mainGlobals mg → mg d.name = some (.ref fa) →
      ∃ (fd : FuncData) (cl : Cl), (∀ (s : Shared) (u : Value), BindsTo s fd ⟨[u], []⟩ [("script", u)]) ∧
        ∀ base : Heap, (K w.params).In base → base.Ns mainGlobals mg → FnOk l.prog w (K w.params) mg base (L2.CX l.prog w) k fa fd ["script"] (spD (K w.params) w cl 1 f))
    (plain : ∀ ns : List Int, ns.length ≤ n → (∀ z ∈ ns, Builtin.Int.intBits z ≤ 1048576) → ∃ s, f [.lst (ns.map .int)] [] = .ok (.bl true) s) :
    PySem.W.WalkO q loose XP YP l.row.toRowW d [] (fun f vs => PySem.call f vs) := by
  refine L2.walk_ofB (n := n) (k := k) (x := "script") (CX := fun w => L2.CX l.prog w) (sp := fun w vs H Q E => vs.length = 1 ∧ ∀ cl, spD (K w.params) w cl 1 f vs H Q E) hn hn2 hdf hr hY (fun w mg fa h KX G hmg => ?_) (fun w H a ns hl hb hO hS => ?_) fun w H s e s' ⟨_, _, _, _, _, _, _, _, _, _, _, _, z⟩ => z
  · obtain ⟨fd, cl, hb, hF⟩ := F w mg fa h KX G hmg
    exact ⟨fd, hb, fun base KB GB => (hF base KB GB).imp fun vs H Q E z => z.2 cl⟩
  · obtain ⟨s, hs⟩ := plain ns hl hb
    refine ⟨rfl, fun cl => ⟨rfl, [], [], [.lst (ns.map .int)], RelS.empty, .cons (.lst ?_ (ints_rel ns)) .nil, ?_⟩⟩
    · rcases hS with h | h
      · exact .inl ⟨h, List.not_mem_nil⟩
      · exact .inr h
    · rw [hs]
      intro ι' H' v x r rd
      cases rd
      rfl
end Pm
namespace Pm
open PySem PySem.Spec PyProof.Rows L2

/-! ### methods of own classes: chosen by the class that comes -/
/-- o.m(..): the method by o's class -/
def mMeth (m : Str) (gs : List (Str × (List D → S → R D))) (mo : ME) (ms : MA) : ME := fun ρ s => (mo ρ s).bind fun d s1 => match insOf s1 d with
  | some (c, fs) => (match gs.lookup c, fs.lookup m with
    | some G, none => (ms ρ s1).bind fun ds s2 => G (d :: ds) s2
    | _, _ => .bad)
  | none => .bad
/-- one class's method, with all that a call asks -/
structure MOk (X : Cx) (cl : Cl) (m c : Str) (G : List D → S → R D) : Prop where
  ex : ∃ (C f : Addr) (fd : FuncData) (ps : List Str) (k n : Nat), cl c = some C ∧ Cls X.K C ∧ Meth X.K C m f ∧ FnOk X.prog X.w X.K X.mg X.base (L2.CX X.prog X.w) k f fd ps (spD X.K X.w cl n G) ∧ (∀ ds s, ds.length ≠ n → G ds s = .bad) ∧ Room k X.A ∧ Binds X.K fd ps []
theorem mok {X : Cx} {cl : Cl} {m c : Str} {G : List D → S → R D} {C f : Addr} {fd : FuncData} {ps : List Str} {k n : Nat} (hc : cl c = some C) (hk : Cls X.K C) (hm : Meth X.K C m f) (F : FnOk X.prog X.w X.K X.mg X.base (L2.CX X.prog X.w) k f fd ps (spD X.K X.w cl n G)) (hn : ∀ ds s, ds.length ≠ n → G ds s = .bad) (hr : Room k X.A) (hb : Binds X.K fd ps []) : MOk X cl m c G :=
  ⟨C, f, fd, ps, k, n, hc, hk, hm, F, hn, hr, hb⟩
inductive MOks (X : Cx) (cl : Cl) (m : Str) : List (Str × (List D → S → R D)) → Prop
  | nil : MOks X cl m []
  | cons {c : Str} {G : List D → S → R D} {gs : List (Str × (List D → S → R D))} (h : MOk X cl m c G) (t : MOks X cl m gs) : MOks X cl m ((c, G) :: gs)
theorem MOks.at_ {X : Cx} {cl : Cl} {m c : Str} {G : List D → S → R D} : ∀ {gs : List (Str × (List D → S → R D))}, MOks X cl m gs → gs.lookup c = some G → MOk X cl m c G
  | _, .nil, h => by cases h
  | _, .cons (c := c') h t, e => by
    rw [List.lookup_cons] at e
    by_cases hc : c == c'
    · rw [hc] at e
      cases e
      rw [beq_iff_eq.mp hc]
      exact h
    · rw [Bool.eq_false_iff.mpr hc] at e
      exact MOks.at_ t e
section
variable {X : Cx} {cl : Cl} {W : Wish} {m : Str} {o e : Expr} {es : List Expr} {apos pos : Pos} {mo : ME} {ms : MA} {gs : List (Str × (List D → S → R D))} {ta : TE} {t : TA}
/-- what the call of a chosen method asks -/
def tMethA (X : Cx) (cl : Cl) (W : Wish) (m : Str) (ta : TE) (t : TA) : TE := fun σ H Q => ta σ H fun x H1 => ∃ (C f : Addr) (fd : FuncData) (ps : List Str) (k n : Nat) (G : List D → S → R D) (a dx : Addr) (fs : List (Str × V)),
  (Cls X.K C ∧ Meth X.K C m f ∧ FnOk X.prog X.w X.K X.mg X.base (L2.CX X.prog X.w) k f fd ps (spD X.K X.w cl n G) ∧ Room k X.A ∧ Binds X.K fd ps []) ∧ x = .ref a ∧ H1 a = some (.ins C dx fs) ∧ fs.lookup m = none ∧
  t σ H1 fun vs H2 => spD X.K X.w cl n G (x :: vs) H2 Q (WE W σ)
theorem pe_methA {pl : Sem Bool} (tk : Takes X W) (he : PE X o ta) (ha : PA X (e :: es) t)
    (hst : starEach (e :: es) X.env = (false, eval e X.env) :: starEach es X.env := by rfl) (hpl : (backTo pos (starEach es X.env)).any (·.1) = false := by rfl)
    (ht : eval (.Call (.Attribute o m apos) (e :: es) [] pos) X.env = (do
      let ov ← eval o X.env
      standAt apos.atName
      let (f, first) ← holding [ov] (getMethod ov m pl)
      callWith pos f first (backTo pos (starEach (e :: es) X.env)) (backToKw pos (keywordEach [] X.env))) := by rfl) :
    PE X (.Call (.Attribute o m apos) (e :: es) [] pos) (tMethA X cl W m ta t) := by
  refine ⟨fun pins s σ H Q I h => ?_⟩
  refine PySem.W.methodCall_KW (pl := pl) (thn (he.run pins s σ H _ I h) fun u s1 ⟨x, H1, I1, rx, C, f, fd, ps, k, n, G, a, dx, fs, ⟨c, hm, F, hr, hb⟩, ex, ea, l, q⟩ => ?_) ht
  subst ex
  obtain rfl : u = Value.ref a := rx
  refine getmeth_ok I1 ea c hm l ?_
  refine PySem.W.callWith_K (first := [.ref a]) (h₀ := X.base) I.ok.mod.kin hm.kp (thn (ha.run pos pins s1 σ H1 _ I1 q) fun us s2 ⟨vs, H2, I2, r, q2⟩ => ⟨I2.kIn, ?_⟩) hst hpl
  exact run_fnS (us := .ref a :: us) (vs := .ref a :: vs) F hr hb (passAt tk σ) I2 (.cons rfl r) q2
theorem pe_methA0 {pl : Sem Bool} (tk : Takes X W) (he : PE X o ta)
    (ht : eval (.Call (.Attribute o m apos) [] [] pos) X.env = (do
      let ov ← eval o X.env
      standAt apos.atName
      let (f, first) ← holding [ov] (getMethod ov m pl)
      callWith pos f first (backTo pos (starEach [] X.env)) (backToKw pos (keywordEach [] X.env))) := by rfl) :
    PE X (.Call (.Attribute o m apos) [] [] pos) (tMethA X cl W m ta tNil) := by
  refine ⟨fun pins s σ H Q I h => ?_⟩
  refine PySem.W.methodCall_KW (pl := pl) (thn (he.run pins s σ H _ I h) fun u s1 ⟨x, H1, I1, rx, C, f, fd, ps, k, n, G, a, dx, fs, ⟨c, hm, F, hr, hb⟩, ex, ea, l, q⟩ => ?_) ht
  subst ex
  obtain rfl : u = Value.ref a := rx
  refine getmeth_ok I1 ea c hm l ?_
  exact PySem.W.callWith_K0 (first := [.ref a]) I1.kIn hm.kp (run_fnS (us := [.ref a]) (vs := [.ref a]) F hr hb (passAt tk σ) I1 (.cons rfl .nil) q)
theorem meth_read {tr : TA} (hg : MOks X cl m gs) (q1 : ∀ (σ : L2.St) (H : Hp) (Q : VK) (ρ : Rho) (ι : List Addr) (s : S), RelE X.K X.w cl ι H ρ σ → RelS X.K X.w cl ι s H → PoE X.K X.w cl W ι H σ Q (mo ρ s) → ta σ H Q)
    (q2 : ∀ (σ : L2.St) (H : Hp) (Q : List V → Hp → Prop) (ρ : Rho) (ι : List Addr) (s : S), RelE X.K X.w cl ι H ρ σ → RelS X.K X.w cl ι s H → PoA X.K X.w cl W ι H σ Q (ms ρ s) → tr σ H Q)
    {σ : L2.St} {H : Hp} {Q : VK} {ρ : Rho} {ι : List Addr} {s : S} (en : RelE X.K X.w cl ι H ρ σ) (r : RelS X.K X.w cl ι s H) (h : PoE X.K X.w cl W ι H σ Q (mMeth m gs mo ms ρ s)) : tMethA X cl W m ta tr σ H Q := by
  refine q1 σ H _ ρ ι s en r (PoE.step h fun d s1 ι1 H1 v e1 x1 r1 d1 h1 => ?_)
  cases ei : insOf s1 d with
  | none => rw [ei] at h1; exact False.elim h1
  | some p =>
  obtain ⟨c, fs⟩ := p
  rw [ei] at h1
  simp only at h1
  cases eg : gs.lookup c with
  | none => rw [eg] at h1; exact False.elim h1
  | some G =>
  cases el : fs.lookup m with
  | some z => rw [eg, el] at h1; exact False.elim h1
  | none =>
  rw [eg, el] at h1
  obtain ⟨C, f, fd, ps, k, n, hcl, hk, hm, F, hn, hr, hb⟩ := (hg.at_ eg).ex
  obtain ⟨a, A, dx, vs, rfl, hcl2, hk2, ha, rf⟩ := insOf_at r1 d1 ei
  rw [hcl] at hcl2
  cases hcl2
  have hnone : vs.lookup m = none := by
    have := kdx_lookup rf m
    rw [el] at this
    exact this
  refine ⟨C, f, fd, ps, k, n, G, a, dx, vs, ⟨hk, hm, F, hr, hb⟩, rfl, ha, hnone, ?_⟩
  refine q2 σ H1 _ ρ ι1 s1 (en.ext x1) r1 (PoE.stepA h1 fun ds s2 ι2 H2 vs2 e2 x2 r2 d2 h2 => ?_)
  exact call_po (W := W) hn r2 (.cons (d1.ext x2) d2) h2
theorem se_meth {pl : Sem Bool} (tk : Takes X W) (hg : MOks X cl m gs) (ho : SE X cl W o mo) (ha : SA X cl W (e :: es) ms)
    (hst : starEach (e :: es) X.env = (false, eval e X.env) :: starEach es X.env := by rfl) (hpl : (backTo pos (starEach es X.env)).any (·.1) = false := by rfl)
    (ht : eval (.Call (.Attribute o m apos) (e :: es) [] pos) X.env = (do
      let ov ← eval o X.env
      standAt apos.atName
      let (f, first) ← holding [ov] (getMethod ov m pl)
      callWith pos f first (backTo pos (starEach (e :: es) X.env)) (backToKw pos (keywordEach [] X.env))) := by rfl) :
    SE X cl W (.Call (.Attribute o m apos) (e :: es) [] pos) (mMeth m gs mo ms) := by
  obtain ⟨t, p1, q1⟩ := ho.ex
  obtain ⟨u, p2, q2⟩ := ha.ex
  exact ⟨_, pe_methA (cl := cl) (pl := pl) tk p1 p2 hst hpl ht, fun σ H Q ρ ι s en r h => meth_read hg q1 q2 en r h⟩
theorem se_meth0 {pl : Sem Bool} (tk : Takes X W) (hg : MOks X cl m gs) (ho : SE X cl W o mo)
    (ht : eval (.Call (.Attribute o m apos) [] [] pos) X.env = (do
      let ov ← eval o X.env
      standAt apos.atName
      let (f, first) ← holding [ov] (getMethod ov m pl)
      callWith pos f first (backTo pos (starEach [] X.env)) (backToKw pos (keywordEach [] X.env))) := by rfl) :
    SE X cl W (.Call (.Attribute o m apos) [] [] pos) (mMeth m gs mo aNil) := by
  obtain ⟨t, p1, q1⟩ := ho.ex
  exact ⟨_, pe_methA0 (cl := cl) (pl := pl) tk p1 ht, fun σ H Q ρ ι s en r h => meth_read (ms := aNil) hg q1 (fun σ H Q ρ ι s _ r h => h ι H [] (Ext.refl _ _) r .nil) en r h⟩
end
/-! ### o.f op= e -/
def sFldAugD (f : Str) (cs : List Str) (g : D → D → S → R D) (mo mv : ME) : MS := fun ρ s => (mo ρ s).st ρ fun d s1 => match d with
  | .ref n => (match s1[n]? with
    | some (.ins c fs) => if c ∈ cs then (match fs.lookup f with
      | some x => (mv ρ s1).st ρ fun y s2 => (g x y s2).st ρ fun z s3 => (match s3[n]? with
        | some (.ins c' fs') => if c' = c ∧ fs'.length < 1000 then .ok (.nx ρ) (s3.set n (.ins c' (putFD f z fs'))) else .bad
        | _ => .bad)
      | none => .bad) else .bad
    | _ => .bad)
  | _ => .bad
section
variable {X : Cx} {cl : Cl} {W : Wish} {pos tpos : Pos} {o value : Expr} {mo mv : ME}
theorem ss_fldaug {op : Operator} {g : D → D → S → R D} (f : Str) (cs : List Str) (hn : ∀ c ∈ cs, ∀ A, cl c = some A → NoAttr X.K A f) (hg : IpD X cl op g) (ho : SE X cl W o mo) (hv : SE X cl W value mv) : SS X cl W (.AugAssign (.Attribute o f tpos) op value pos) (sFldAugD f cs g mo mv) := by
  obtain ⟨t, p1, q1⟩ := ho.ex
  obtain ⟨u, p2, q2⟩ := hv.ex
  have hop : InOp X op (AnyIp X op) := anyIp
  refine ⟨_, ps_fldaug p1 p2 hop, fun Dn σ H ρ ι s en r h => ?_⟩
  refine q1 σ H _ ρ ι s en r (PoS.stepE en h fun d s1 ι1 H1 v e1 x1 r1 d1 h1 => ?_)
  cases d1 with
  | @ref n a hn1 =>
    simp only at h1
    cases e5 : s1[n]? with
    | none => rw [e5] at h1; exact False.elim h1
    | some ob =>
    cases ob with
    | lst xs => rw [e5] at h1; exact False.elim h1
    | dK kvs => rw [e5] at h1; exact False.elim h1
    | ins c fs =>
    rw [e5] at h1
    simp only at h1
    by_cases hc : c ∈ cs
    rotate_left
    · rw [if_neg hc] at h1; exact False.elim h1
    rw [if_pos hc] at h1
    cases el : fs.lookup f with
    | none => rw [el] at h1; exact False.elim h1
    | some x =>
    rw [el] at h1
    obtain ⟨a', ea, A, dx, vs, hcl, hk, ha, rf⟩ := r1.at_ n _ e5
    rw [hn1] at ea
    obtain rfl := Option.some.inj ea
    obtain ⟨vx, ex, rx⟩ := fs_lookup rf el
    refine ⟨_, A, dx, vs, vx, rfl, ha, hk, hn c hc A hcl, ex, ?_⟩
    refine q2 σ H1 _ ρ ι1 s1 (en.ext x1) r1 (PoS.stepE (en.ext x1) h1 fun d2 s2 ι2 H2 v2 e2 x2 r2 dd2 h2 => ?_)
    refine hg W ι2 H2 σ _ s2 x d2 vx v2 r2 (rx.ext x2) dd2 (PoS.stepE ((en.ext x1).ext x2) h2 fun d3 s3 ι3 H3 v3 e3 x3 r3 dd3 h3 => ?_)
    have hn3 := x3.at (x2.at hn1)
    cases e6 : s3[n]? with
    | none => rw [e6] at h3; exact False.elim h3
    | some ob3 =>
    cases ob3 with
    | lst xs => rw [e6] at h3; exact False.elim h3
    | dK kvs => rw [e6] at h3; exact False.elim h3
    | ins c' fs' =>
    rw [e6] at h3
    simp only at h3
    by_cases hcc : c' = c ∧ fs'.length < 1000
    rotate_left
    · rw [if_neg hcc] at h3; exact False.elim h3
    rw [if_pos hcc] at h3
    obtain ⟨rfl, hlen⟩ := hcc
    obtain ⟨a3, ea3, A3, dx3, vs3, hcl3, hk3, ha3, rf3⟩ := r3.at_ n _ e6
    rw [hn3] at ea3
    obtain rfl := Option.some.inj ea3
    rw [hcl] at hcl3
    cases hcl3
    have hm := List.mem_of_getElem? hn3
    have xw := Ext.write (ι := ι3) (H := H3) (o := HO.ins A dx3 (putF f v3 vs3)) hm
    exact ⟨dx3, vs3, ha3, by rw [← fs_len rf3]; exact hlen, h3 ι3 _ σ xw (r3.write hn3 ⟨A, dx3, _, hcl, hk3, upd_same, fs_put (dd3.ext xw) (RelFs.ext xw rf3)⟩) ((((en.ext x1).ext x2).ext x3).ext xw)⟩
  | _ => exact False.elim h1
/-- op= with - -/
def dISub : D → D → S → R D
  | .int a, .int b, s => .ok (.int (a - b)) s
  | _, _, _ => .bad
theorem d_isub : IpD X cl .Sub dISub := by
  intro W ι H σ Q s dx dy x y rs rx ry h
  unfold dISub at h
  split at h
  · cases rx; cases ry
    exact ⟨_, ip_sub, _, _, rfl, rfl, h ι H _ (Ext.refl _ _) rs (.int _)⟩
  · exact False.elim h
end
end Pm
namespace Pm
open PySem PySem.Spec PyProof.Rows L2

/-! ### dicts of the store: keys are numbers and texts -/
def dictAt (s : S) : D → Option (List (Key × D))
  | .ref n => match s[n]? with
    | some (.dK kvs) => some kvs
    | _ => none
  | _ => none
def keyD : D → Option Key
  | .int i => some (.inl i)
  | .str z => some (.inr z)
  | _ => none
def valD (kvs : List (Key × D)) (k : Key) : Option D := (kvs.find? fun kv => decide (kv.1 = k)).map (·.2)
def putD (kvs : List (Key × D)) (k : Key) (v : D) : List (Key × D) :=
  if (kvs.any fun kv => decide (kv.1 = k)) = true then kvs.map (fun kv => if kv.1 = k then (kv.1, v) else kv) else kvs ++ [(k, v)]
def dropD (kvs : List (Key × D)) (k : Key) : List (Key × D) := kvs.filter fun kv => decide (kv.1 ≠ k)
section
variable {K : PySem.W.Frag} {w : World} {cl : Cl} {ι : List Addr} {H : Hp} {s : S}
/-- the same keys, the values one by one -/
def RelK (K : PySem.W.Frag) (w : World) (cl : Cl) (ι : List Addr) (H : Hp) (kvs : List (Key × D)) (vs : List (Key × V)) : Prop := kvs.map (·.1) = vs.map (·.1) ∧ RelDs K w cl ι H (kvs.map (·.2)) (vs.map (·.2))
theorem RelK.nil : RelK K w cl ι H [] [] := ⟨rfl, .nil⟩
theorem RelK.cons {k : Key} {d : D} {v : V} {kvs : List (Key × D)} {vs : List (Key × V)} (r : RelD K w cl ι H d v) (t : RelK K w cl ι H kvs vs) : RelK K w cl ι H ((k, d) :: kvs) ((k, v) :: vs) := ⟨congrArg (k :: ·) t.1, .cons r t.2⟩
theorem RelK.inv {k : Key} {d : D} {kvs : List (Key × D)} {ws : List (Key × V)} (t : RelK K w cl ι H ((k, d) :: kvs) ws) : ∃ v vs, ws = (k, v) :: vs ∧ RelD K w cl ι H d v ∧ RelK K w cl ι H kvs vs := by
  obtain ⟨h1, h2⟩ := t
  cases ws with
  | nil => cases h1
  | cons p vs =>
    obtain ⟨j, v⟩ := p
    simp only [List.map_cons, List.cons.injEq] at h1
    obtain ⟨rfl, h1⟩ := h1
    cases h2 with
    | cons r t => exact ⟨v, vs, rfl, r, h1, t⟩
theorem RelK.len {kvs : List (Key × D)} {vs : List (Key × V)} (t : RelK K w cl ι H kvs vs) : kvs.length = vs.length := by
  have := congrArg List.length t.1
  simpa using this
theorem RelK.val {k : Key} : ∀ {kvs : List (Key × D)} {vs : List (Key × V)}, RelK K w cl ι H kvs vs → match valD kvs k with
    | some d => ∃ v, valV vs k = some v ∧ RelD K w cl ι H d v
    | none => valV vs k = none
  | [], vs, t => by
    cases vs with
    | nil => rfl
    | cons p r => cases t.1
  | (j, d) :: kvs, ws, t => by
    obtain ⟨v, vs, rfl, r, t⟩ := t.inv
    have ih := RelK.val (k := k) t
    by_cases h : j = k
    · have e : valD ((j, d) :: kvs) k = some d := by simp [valD, List.find?_cons, h]
      rw [e]
      exact ⟨v, by rw [valV_pos h], r⟩
    · have e : valD ((j, d) :: kvs) k = valD kvs k := by simp [valD, List.find?_cons, h]
      rw [e, valV_neg h]
      exact ih
theorem RelK.app {kvs kvs' : List (Key × D)} {vs vs' : List (Key × V)} (t : RelK K w cl ι H kvs vs) (t' : RelK K w cl ι H kvs' vs') : RelK K w cl ι H (kvs ++ kvs') (vs ++ vs') := ⟨by rw [List.map_append, List.map_append, t.1, t'.1], by rw [List.map_append, List.map_append]; exact t.2.append t'.2⟩
theorem RelK.repl {k : Key} {d : D} {v : V} (r : RelD K w cl ι H d v) : ∀ {kvs : List (Key × D)} {vs : List (Key × V)}, RelK K w cl ι H kvs vs → RelK K w cl ι H (kvs.map fun kv => if kv.1 = k then (kv.1, d) else kv) (vs.map fun kv => if kv.1 = k then (kv.1, v) else kv)
  | [], vs, t => by
    cases vs with
    | nil => exact .nil
    | cons p q => cases t.1
  | (j, d') :: kvs, ws, t => by
    obtain ⟨v', vs, rfl, r', t⟩ := t.inv
    have ih := RelK.repl (k := k) r t
    rw [List.map_cons, List.map_cons]
    by_cases h : j = k
    · simp only [h, if_true]
      exact .cons r ih
    · simp only [h, if_false]
      exact .cons r' ih
theorem RelK.put {k : Key} {d : D} {v : V} {kvs : List (Key × D)} {vs : List (Key × V)} (t : RelK K w cl ι H kvs vs) (r : RelD K w cl ι H d v) : RelK K w cl ι H (putD kvs k d) (putK vs k v) := by
  have e : (kvs.any fun kv => decide (kv.1 = k)) = (vs.any fun kv => decide (kv.1 = k)) := by
    have h1 : (kvs.any fun kv => decide (kv.1 = k)) = (kvs.map (·.1)).any fun j => decide (j = k) := by rw [List.any_map]; rfl
    have h2 : (vs.any fun kv => decide (kv.1 = k)) = (vs.map (·.1)).any fun j => decide (j = k) := by rw [List.any_map]; rfl
    rw [h1, h2, t.1]
  unfold putD putK
  rw [e]
  split
  · exact t.repl r
  · exact t.app (.cons r .nil)
theorem RelK.ext {ι' : List Addr} {H' : Hp} (x : Ext ι H ι' H') {kvs : List (Key × D)} {vs : List (Key × V)} (t : RelK K w cl ι H kvs vs) : RelK K w cl ι' H' kvs vs := ⟨t.1, t.2.ext x⟩
theorem dict_rel {d : D} {v : V} {kvs : List (Key × D)} (rs : RelS K w cl ι s H) (r : RelD K w cl ι H d v) (h : dictAt s d = some kvs) : ∃ (n : Nat) (a : Addr) (vs : List (Key × V)), d = .ref n ∧ s[n]? = some (.dK kvs) ∧ v = .ref a ∧ ι[n]? = some a ∧ H a = some (.dK vs) ∧ RelK K w cl ι H kvs vs := by
  cases r <;> simp only [dictAt] at h <;> try cases h
  rename_i n a hn
  split at h
  · rename_i kvs' e
    cases h
    obtain ⟨a', ea, vs, hv, hk, rv⟩ := rs.at_ n _ e
    rw [hn] at ea
    cases ea
    exact ⟨n, _, vs, rfl, e, rfl, hn, hv, hk, rv⟩
  · cases h
theorem key_rel {d : D} {v : V} {k : Key} (r : RelD K w cl ι H d v) (h : keyD d = some k) : v = kV k := by
  cases r <;> simp only [keyD] at h <;> cases h <;> rfl
end
/-! d[k] -/
def dIxK (x y : D) (s : S) : R D := match dictAt s x, keyD y with
  | some kvs, some k => (match valD kvs k with
    | some d => .ok d s
    | none => .bad)
  | _, _ => dIx x y s
section
variable {X : Cx} {cl : Cl} {W : Wish} {pos pos' p apos cpos : Pos} {a b e o : Expr} {ma mb me mo mi : ME}
theorem ix_dK (hu : X.A.units + 1 < cLine) : IxR X (fun x y H Q => ∃ a v, x = .ref a ∧ DGet H a y (some v) ∧ Q v H) := by
  intro value slice pins s σ H x y v u Q I rx ry h hs
  obtain ⟨a, v0, ex, g, q⟩ := h
  subst ex
  obtain rfl : v = Value.ref a := rx
  exact tail_any (dict_typeIs I g) PySem.F.slot_dict_getitem.lookup (d_getItem hu I g ry fun w' s3 I3 rw' => ⟨v0, H, I3, rw', q⟩) hs
theorem d_ixK (hu : X.A.units + 1 < cLine) : IxD X cl dIxK := by
  intro W ι H σ Q s dx dy x y rs rx ry h
  unfold dIxK at h
  split at h
  · rename_i kvs k e1 e2
    obtain ⟨n, a, vs, rfl, _, rfl, _, hv, rk⟩ := dict_rel rs rx e1
    obtain rfl := key_rel ry e2
    have rv := rk.val (k := k)
    split at h
    · rename_i d e3
      rw [e3] at rv
      obtain ⟨v, ev, rd⟩ := rv
      exact ⟨_, ix_dK hu, a, v, rfl, .inl ⟨vs, k, .inl hv, rfl, ev.symm⟩, h ι H _ (Ext.refl _ _) rs rd⟩
    · exact False.elim h
  · exact d_ix W ι H σ Q s dx dy x y rs rx ry h
theorem se_ixK (hu : X.A.units + 1 < cLine) (ha : SE X cl W a ma) (hb : SE X cl W b mb) (hs : PlainIx b := by exact fun _ _ => rfl) : SE X cl W (.Subscript a b pos) (m2 dIxK ma mb) := by
  obtain ⟨ta, pa, qa⟩ := ha.ex
  obtain ⟨tb, pb, qb⟩ := hb.ex
  refine ⟨_, pe_ix anyIx pa pb hs, fun σ H Q ρ ι s e r h => ?_⟩
  refine qa σ H _ ρ ι s e r (PoE.step h fun d s1 ι1 H1 v e1 x1 r1 d1 h1 => ?_)
  refine qb σ H1 _ ρ ι1 s1 (e.ext x1) r1 (PoE.step h1 fun d2 s2 ι2 H2 v2 e2 x2 r2 dd2 h2 => ?_)
  exact d_ixK hu W ι2 H2 σ Q s2 d d2 v v2 r2 (d1.ext x2) dd2 h2
/-! k in d, k not in d -/
def dInK (x y : D) (s : S) : R D := match dictAt s y, keyD x with
  | some kvs, some k => .ok (.bl (valD kvs k).isSome) s
  | _, _ => dIn x y s
def dNotInK (x y : D) (s : S) : R D := match dictAt s y, keyD x with
  | some kvs, some k => .ok (.bl (!(valD kvs k).isSome)) s
  | _, _ => dNotIn x y s
theorem op_in_dK (hu : X.A.units + 1 < cLine) : OpR X (compareOp .In) (fun x y H Q => ∃ a o, y = .ref a ∧ DGet H a x o ∧ Q (.bl o.isSome) H) := by
  intro pins s σ H x y v u Q I rx ry h
  obtain ⟨a, o, ey, g, q⟩ := h
  subst ey
  obtain rfl : u = Value.ref a := ry
  exact L2.d_in hu I g rx fun s3 I3 => ⟨.bl o.isSome, H, I3, rfl, q⟩
theorem op_notin_dK (hu : X.A.units + 1 < cLine) : OpR X (compareOp .NotIn) (fun x y H Q => ∃ a o, y = .ref a ∧ DGet H a x o ∧ Q (.bl (!o.isSome)) H) := by
  intro pins s σ H x y v u Q I rx ry h
  obtain ⟨a, o, ey, g, q⟩ := h
  subst ey
  obtain rfl : u = Value.ref a := ry
  exact L2.d_notIn hu I g rx fun s3 I3 => ⟨.bl (!o.isSome), H, I3, rfl, q⟩
theorem some_rel {K : PySem.W.Frag} {w : World} {ι : List Addr} {H : Hp} {kvs : List (Key × D)} {vs : List (Key × V)} {k : Key} (t : RelK K w cl ι H kvs vs) : (valV vs k).isSome = (valD kvs k).isSome := by
  have rv := t.val (k := k)
  cases e : valD kvs k with
  | none => rw [e] at rv; simp only at rv; rw [rv]; rfl
  | some d => rw [e] at rv; obtain ⟨v, ev, _⟩ := rv; rw [ev]; rfl
theorem d_inK (hu : X.A.units + 65 < cLine) : OpD X cl (compareOp .In) dInK := by
  intro W ι H σ Q s dx dy x y rs rx ry h
  unfold dInK at h
  split at h
  · rename_i kvs k e1 e2
    obtain ⟨n, a, vs, rfl, _, rfl, _, hv, rk⟩ := dict_rel rs ry e1
    obtain rfl := key_rel rx e2
    exact ⟨_, op_in_dK (by omega), a, _, rfl, .inl ⟨vs, k, .inl hv, rfl, rfl⟩, by rw [some_rel rk]; exact h ι H _ (Ext.refl _ _) rs (.bl _)⟩
  · exact d_in hu W ι H σ Q s dx dy x y rs rx ry h
theorem d_notinK (hu : X.A.units + 65 < cLine) : OpD X cl (compareOp .NotIn) dNotInK := by
  intro W ι H σ Q s dx dy x y rs rx ry h
  unfold dNotInK at h
  split at h
  · rename_i kvs k e1 e2
    obtain ⟨n, a, vs, rfl, _, rfl, _, hv, rk⟩ := dict_rel rs ry e1
    obtain rfl := key_rel rx e2
    exact ⟨_, op_notin_dK (by omega), a, _, rfl, .inl ⟨vs, k, .inl hv, rfl, rfl⟩, by rw [some_rel rk]; exact h ι H _ (Ext.refl _ _) rs (.bl _)⟩
  · exact d_notin hu W ι H σ Q s dx dy x y rs rx ry h
/-! d[k] = v -/
def dStoreK (x y v : D) (s : S) : Option S := match x with
  | .ref n => (match s[n]?, keyD y with
    | some (.dK kvs), some k => if kvs.length < sizeLine then some (s.set n (.dK (putD kvs k v))) else none
    | _, _ => dStore x y v s)
  | _ => none
def gSubK (o i : ME) : MG := fun v ρ s => (o ρ s).bind fun x s1 => (i ρ s1).bind fun y s2 => match dStoreK x y v s2 with
  | some s3 => .ok ρ s3
  | none => .bad
theorem sg_subK (hu : X.A.units + 1 < cLine) {o i : Expr} (ho : SE X cl W o mo) (hi : SE X cl W i mi)
    (ha : ∀ v, assign (.Subscript o i pos) X.env v = (do
      let ov ← holding [v] (eval o X.env)
      let iv ← holding [v, ov] (eval i X.env)
      standAt pos
      holding [v, ov, iv] (setItem ov iv v)
      release [v, ov, iv] []) := by intro _; rfl) : SG X cl W (.Subscript o i pos) (gSubK mo mi) := by
  obtain ⟨t, p, q⟩ := ho.ex
  obtain ⟨u, p2, q2⟩ := hi.ex
  obtain ⟨t0, p0, q0⟩ := (sg_sub (pos := pos) ho hi ha).ex
  refine ⟨_, pg_sub p p2 anySet ha, fun d v σ H Q ρ ι s en r rd ⟨ρ1, s1, e1, h⟩ => ?_⟩
  unfold gSubK at e1
  refine q σ H _ ρ ι s en r ?_
  cases e2 : mo ρ s with
  | bad => simp only [e2, R.bind] at e1; cases e1
  | exc x s2 => simp only [e2, R.bind] at e1; cases e1
  | ok x s2 =>
  simp only [e2, R.bind] at e1
  intro ι2 H2 v2 x2 r2 rx
  refine q2 σ H2 _ ρ ι2 s2 (en.ext x2) r2 ?_
  cases e3 : mi ρ s2 with
  | bad => simp only [e3] at e1; cases e1
  | exc x s3 => simp only [e3] at e1; cases e1
  | ok y s3 =>
  simp only [e3] at e1
  intro ι3 H3 v3 x3 r3 ry
  have rx3 := rx.ext x3
  have rd3 := (rd.ext x2).ext x3
  have en3 := (en.ext x2).ext x3
  have h3 : ∀ ι' H' σ', Ext ι3 H3 ι' H' → RelS X.K X.w cl ι' s1 H' → RelE X.K X.w cl ι' H' ρ1 σ' → Q σ' H' := fun ι' H' σ' x => h ι' H' σ' ((x2.trans x3).trans x)
  cases e4 : dStoreK x y d s3 with
  | none => rw [e4] at e1; cases e1
  | some s4 =>
  rw [e4] at e1
  cases e1
  unfold dStoreK at e4
  cases rx3 with
  | @ref n a hn =>
    simp only at e4
    cases e5 : s3[n]? with
    | none => rw [e5] at e4; unfold dStore at e4; cases y <;> simp only [e5] at e4 <;> cases e4
    | some ob =>
    rw [e5] at e4
    cases ob with
    | dK kvs =>
      cases e6 : keyD y with
      | none => rw [e6] at e4; unfold dStore at e4; cases y <;> simp only [e5] at e4 <;> cases e4
      | some k =>
        rw [e6] at e4
        simp only at e4
        split at e4
        · rename_i hl
          cases e4
          obtain ⟨n', a', vs, en', _, ev', hn', hv, rk⟩ := dict_rel r3 (.ref hn) (show dictAt s3 (.ref n) = some kvs by simp only [dictAt, e5])
          cases en'
          cases ev'
          obtain rfl := key_rel ry e6
          have hm : a ∈ ι3 := List.mem_of_getElem? hn
          have xw : Ext ι3 H3 ι3 (upd H3 a (.dK (putK vs k v))) := Ext.write hm
          refine ⟨_, set_dict hu, a, _, rfl, .inl ⟨vs, k, hv, rfl, by rw [← rk.len]; exact hl, rfl⟩, ?_⟩
          exact h3 ι3 _ σ xw (r3.write hn ⟨_, upd_same, (rk.put rd3).ext xw⟩) (en3.ext xw)
        · cases e4
    | ins c fs => unfold dStore at e4; cases y <;> simp only [e5] at e4 <;> cases e4
    | lst xs =>
      have e7 : dStore (.ref n) y d s3 = some s1 := by
        cases y <;> exact e4
      unfold dStore at e7
      cases ry <;> try (simp only at e7; cases e7; done)
      rename_i i
      simp only [e5] at e7
      split at e7
      · rename_i j e8
        cases e7
        obtain ⟨a', ea, vs, hv, rv⟩ := r3.at_ n _ e5
        rw [hn] at ea
        obtain rfl := Option.some.inj ea
        have hm : a ∈ ι3 := List.mem_of_getElem? hn
        have xw : Ext ι3 H3 ι3 (upd H3 a (.lst (vs.set j v))) := Ext.write hm
        refine ⟨_, set_list, a, vs, i, j, rfl, rfl, hv, by rw [← rv.length]; exact e8, ?_⟩
        exact h3 ι3 _ σ xw (r3.write hn ⟨_, upd_same, (RelDs.set rd3 j rv).ext xw⟩) (en3.ext xw)
      · cases e7
  | _ => cases e4
/-! {} -/
def mDictN : ME := fun _ s => .ok (.ref s.length) (s ++ [.dK []])
theorem se_dictN : SE X cl W (.Dict [] [] pos) mDictN := by
  refine ⟨_, pe_dnewK, fun σ H Q ρ ι s en r h => ?_⟩
  intro a hp
  refine h _ _ _ (Ext.push hp) (r.push hp ⟨[], upd_same, rfl, .nil⟩) (.ref ?_)
  rw [List.getElem?_append_right (by rw [r.len]; exact Nat.le_refl _), r.len]
  simp
end
end Pm
namespace Pm
open PySem PySem.Spec PyProof.Rows L2

/-! ### more methods of lists and texts -/
/-- extended by a list of the store -/
def dExtend : D → List D → S → R D
  | .ref n, [.ref m], s => (match s[n]?, s[m]? with
    | some (.lst xs), some (.lst ys) => if xs.length + ys.length ≤ sizeLine then .ok .non (s.set n (.lst (xs ++ ys))) else .bad
    | _, _ => .bad)
  | _, _, _ => .bad
def dInsert : D → List D → S → R D
  | .ref n, [.int i, d], s => (match s[n]? with
    | some (.lst xs) => if xs.length < sizeLine ∧ 0 ≤ i ∧ i < 2 ^ 63 then .ok .non (s.set n (.lst (xs.take i.toNat ++ [d] ++ xs.drop i.toNat))) else .bad
    | _ => .bad)
  | _, _, _ => .bad
def dFind : D → List D → S → R D
  | .str a, [.str b], s => .ok (.int (Txt.find a b)) s
  | _, _, _ => .bad
def dStarts : D → List D → S → R D
  | .str a, [.str b], s => .ok (.bl (Txt.startswith a b)) s
  | _, _, _ => .bad
def dEnds : D → List D → S → R D
  | .str a, [.str b], s => .ok (.bl (Txt.endswith a b)) s
  | _, _, _ => .bad
def allS : List D → Option (List Str)
  | [] => some []
  | .str x :: r => (allS r).map (x :: ·)
  | _ => none
def dJoin : D → List D → S → R D
  | .str a, [d], s => (match lview s d with
    | some ds => (match allS ds with
      | some ys => if (ys.map (·.length)).sum + ys.length * a.length ≤ 16777216 then .ok (.str (Txt.join a ys)) s else .bad
      | none => .bad)
    | none => .bad)
  | _, _, _ => .bad
section
variable {X : Cx} {cl : Cl}
theorem d_extend : MtD X cl "list.extend" dExtend := by
  intro W ι H σ Q s dx ds x xs rs rx rds h
  unfold dExtend at h
  split at h
  · rename_i n m
    split at h
    · rename_i ys zs e e2
      split at h
      · rename_i hl
        obtain ⟨a, vs, rfl, hn, hv, rv⟩ := lst_at rs rx e
        obtain ⟨v, rfl, r⟩ := rds.one
        obtain ⟨b, us, rfl, hn2, hv2, rv2⟩ := lst_at rs r e2
        have hm := List.mem_of_getElem? hn
        have xw : Ext ι H ι (upd H a (.lst (vs ++ us))) := Ext.write hm
        exact ⟨_, mt_extend, a, b, vs, us, rfl, rfl, hv, hv2, by rw [← rv.length, ← rv2.length]; exact hl, h ι _ _ xw (rs.write hn ⟨_, upd_same, (rv.append rv2).ext xw⟩) .non⟩
      · exact False.elim h
    · exact False.elim h
  · exact False.elim h
theorem d_insert : MtD X cl "list.insert" dInsert := by
  intro W ι H σ Q s dx ds x xs rs rx rds h
  unfold dInsert at h
  split at h
  · rename_i n i d
    split at h
    · rename_i ys e
      split at h
      · rename_i hl
        obtain ⟨a, vs, rfl, hn, hv, rv⟩ := lst_at rs rx e
        obtain ⟨v, u, rfl, r, r'⟩ := rds.two
        cases r
        have hm := List.mem_of_getElem? hn
        have xw : Ext ι H ι (upd H a (.lst (vs.take i.toNat ++ [u] ++ vs.drop i.toNat))) := Ext.write hm
        exact ⟨_, mt_insert, a, vs, i, u, rfl, rfl, hv, by rw [← rv.length]; exact hl.1, hl.2.1, hl.2.2, h ι _ _ xw (rs.write hn ⟨_, upd_same, (((rv.take _).append (.cons r' .nil)).append (rv.drop _)).ext xw⟩) .non⟩
      · exact False.elim h
    · exact False.elim h
  · exact False.elim h
theorem d_find : MtD X cl "str.find" dFind := by
  intro W ι H σ Q s dx ds x xs rs rx rds h
  unfold dFind at h
  split at h
  · cases rx
    obtain ⟨v, rfl, r⟩ := rds.one
    cases r
    exact ⟨_, mt_find, _, _, rfl, rfl, h ι H _ (Ext.refl _ _) rs (.int _)⟩
  · exact False.elim h
theorem d_starts : MtD X cl "str.startswith" dStarts := by
  intro W ι H σ Q s dx ds x xs rs rx rds h
  unfold dStarts at h
  split at h
  · cases rx
    obtain ⟨v, rfl, r⟩ := rds.one
    cases r
    exact ⟨_, mt_startswith, _, _, rfl, rfl, h ι H _ (Ext.refl _ _) rs (.bl _)⟩
  · exact False.elim h
theorem d_ends : MtD X cl "str.endswith" dEnds := by
  intro W ι H σ Q s dx ds x xs rs rx rds h
  unfold dEnds at h
  split at h
  · cases rx
    obtain ⟨v, rfl, r⟩ := rds.one
    cases r
    exact ⟨_, mt_endswith, _, _, rfl, rfl, h ι H _ (Ext.refl _ _) rs (.bl _)⟩
  · exact False.elim h
theorem allS_rel {K : PySem.W.Frag} {w : World} {ι : List Addr} {H : Hp} : ∀ {ds : List D} {ys : List Str} {vs : List V}, allS ds = some ys → RelDs K w cl ι H ds vs → vs = ys.map V.str
  | [], ys, _, h, .nil => by cases h; rfl
  | d :: ds, ys, _, h, .cons r t => by
    cases d <;> simp only [allS] at h <;> try cases h
    obtain ⟨zs, h1, rfl⟩ := Option.map_eq_some_iff.mp h
    cases r
    rw [allS_rel h1 t]
    rfl
theorem d_join : MtD X cl "str.join" dJoin := by
  intro W ι H σ Q s dx ds x xs rs rx rds h
  unfold dJoin at h
  split at h
  · cases rx
    obtain ⟨v, rfl, r⟩ := rds.one
    split at h
    · rename_i es e1
      split at h
      · rename_i ys e2
        split at h
        · rename_i hz
          obtain ⟨a, vs, rfl, hl, rv⟩ := lview_at rs r e1
          have ev := allS_rel e2 rv
          subst ev
          exact ⟨_, mt_join, _, a, ys, rfl, rfl, .inl hl.sq, hz, h ι H _ (Ext.refl _ _) rs (.str _)⟩
        · exact False.elim h
      · exact False.elim h
    · exact False.elim h
  · exact False.elim h
end
end Pm
namespace Pm
open PySem PySem.Spec PyProof.Rows L2

/-! ### a comprehension whose list is a thing of the store -/
noncomputable def mLcN (it : MI) (g : MG) (t : MT) (m : ME) (own : List Nat) : ME := fun ρ s => (it ρ s).bind fun p s1 => match mapL p.2 p.1 g t m p.1 (wipeD ρ own) s1 with
  | .ok ds s2 => if p.1.length ≤ sizeLine then .ok (.ref s2.length) (s2 ++ [.lst ds]) else .bad
  | _ => .bad
section
variable {K : PySem.W.Frag} {w : World} {cl : Cl} {ι : List Addr} {H : Hp} {D : Addr}
theorem Ext.adopt : Ext ι (hd (some D) H) (ι ++ [D]) H := ⟨⟨[D], rfl⟩, fun a o e n => ⟨hd_some e, fun m => by
  rcases List.mem_append.mp m with m | m
  · exact n m
  · rw [List.mem_singleton.mp m, hd_self] at e; cases e⟩, fun a e => hd_noneD e⟩
theorem RelS.adopt {s : S} {o : O} (r : RelS K w cl ι s (hd (some D) H)) (nD : D ∉ ι) (ro : RelO K w cl (ι ++ [D]) H o D) : RelS K w cl (ι ++ [D]) (s ++ [o]) H := by
  refine ⟨by rw [List.length_append, List.length_append, r.len]; rfl, List.nodup_append.mpr ⟨r.nd, by simp, fun a ha b hb => ?_⟩, fun n o' e => ?_⟩
  · rw [List.mem_singleton.mp hb]
    rintro rfl
    exact nD ha
  · by_cases hn : n < s.length
    · rw [List.getElem?_append_left hn] at e
      obtain ⟨a, ea, ro'⟩ := r.at_ n o' e
      refine ⟨a, by rw [List.getElem?_append_left (by rw [r.len]; exact hn)]; exact ea, ?_⟩
      cases o' with
      | lst ds => obtain ⟨us, h1, h2⟩ := ro'; exact ⟨us, hd_some h1, h2.ext Ext.adopt⟩
      | ins c fs => obtain ⟨A, dx, us, hc, hk, h1, h2⟩ := ro'; exact ⟨A, dx, us, hc, hk, hd_some h1, h2.ext Ext.adopt⟩
      | dK kvs => obtain ⟨us, h1, hk, h2⟩ := ro'; exact ⟨us, hd_some h1, hk, h2.ext Ext.adopt⟩
    · have hn' : n = s.length := by
        have := (List.getElem?_eq_some_iff.mp e).1
        rw [List.length_append] at this
        simp at this
        omega
      subst hn'
      rw [List.getElem?_append_right (Nat.le_refl _)] at e
      simp at e
      subst e
      exact ⟨D, by rw [List.getElem?_append_right (by rw [r.len]; exact Nat.le_refl _), r.len]; simp, ro⟩
end
/-- the reading of a comprehension -/
theorem lc_readN {X : Cx} {cl : Cl} {W : Wish} {it : MI} {g : MG} {mt : MT} {m : ME} {tg' : TG} {wi : TI} {ow : List Nat} (G : OwnG X.K tg' g ow)
    (q1 : ∀ (σ : L2.St) (H : Hp) (Q : It → Hp → Prop) ρ ι s, RelE X.K X.w cl ι H ρ σ → RelS X.K X.w cl ι s H →
    (match it ρ s with
      | .ok p s1 => ∀ ι' H' J, Ext ι H ι' H' → RelS X.K X.w cl ι' s1 H' → ItOk X.K X.w cl p J ι' H' → Q J H'
      | .exc x s1 => ∀ ι' H' c d, Ext ι H ι' H' → RelS X.K X.w cl ι' s1 H' → RelX X.K X.w cl ι' H' x c d → W c d σ H'
      | .bad => False) → wi σ H Q)
    {σ : L2.St} {H : Hp} {Q : VK} {ρ : Rho} {ι : List Addr} {s : S} (en : RelE X.K X.w cl ι H ρ σ) (r : RelS X.K X.w cl ι s H) (h : PoE X.K X.w cl W ι H σ Q (mLcN it g mt m ow ρ s)) :
    tLc wi tg' (fun σ H Q => ∃ D, tHideT D (tOfT X.K X.w cl mt) σ H Q) (fun σ H Q => ∃ D, tHide D (tOfE X.K X.w cl m) σ H Q) ow σ H Q := by
  unfold mLcN at h
  refine q1 σ H _ ρ ι s en r ?_
  cases e1 : it ρ s with
  | bad => rw [e1] at h; exact h
  | exc x s1 => rw [e1] at h; exact h
  | ok p s1 =>
  rw [e1] at h
  intro ι1 H1 J x1 r1 iok D hD
  simp only [R.bind] at h
  cases e2 : mapL p.2 p.1 g mt m p.1 (wipeD ρ ow) s1 with
  | bad => rw [e2] at h; exact False.elim h
  | exc x s2 => rw [e2] at h; exact False.elim h
  | ok ds s2 =>
  rw [e2] at h
  simp only at h
  by_cases hlen : p.1.length ≤ sizeLine
  rotate_left
  · rw [if_neg hlen] at h; exact False.elim h
  rw [if_pos hlen] at h
  have hid1 : hd (some D) (upd H1 D (.lst [])) = H1 := by rw [hd_upd, hd_id hD]
  -- what is made so far stands at D, hidden from the data; what is left gives the rest
  refine ⟨fun i k H' => k = p.1.length - i ∧ i ≤ p.1.length ∧ ∃ ι' s' acc vs ds', Ext ι1 H1 ι' (hd (some D) H') ∧ RelS X.K X.w cl ι' s' (hd (some D) H') ∧ H' D = some (.lst vs) ∧ RelDs X.K X.w cl ι' (hd (some D) H') acc vs ∧ acc.length ≤ i ∧
      mapL p.2 p.1 g mt m (p.1.drop i) (wipeD ρ ow) s' = .ok ds' s2 ∧ acc ++ ds' = ds,
    ⟨p.1.length, rfl, Nat.zero_le _, ι1, s1, [], [], ds, by rw [hid1]; exact Ext.refl _ _, by rw [hid1]; exact r1, upd_same, .nil, Nat.le_refl _, e2, rfl⟩, ?_⟩
  rintro i k H2 ⟨rfl, hi2, ι2, s3, acc, vs, ds', x2, r2, hD2, rv, hacc, em, ed⟩
  have nD2 : ∀ a, some D = some a → H2 a ≠ none := fun a ea => by cases ea; rw [hD2]; exact fun z => nomatch z
  by_cases hlt : i < p.1.length
  · have edr : p.1.drop i = p.1[i] :: p.1.drop (i + 1) := List.drop_eq_getElem_cons hlt
    rw [edr] at em
    unfold mapL at em
    by_cases hg2 : gOk p.2 p.1 s3
    rotate_left
    · rw [if_neg hg2] at em; cases em
    rw [if_pos hg2] at em
    obtain ⟨go, yl⟩ := (iok (some D) i ι2 H2 s3 nD2 x2 r2 hg2).1 hlt
    refine .inr ⟨go, fun H' => i + 1 ≤ p.1.length ∧ ∃ ι' s' acc vs ds', Ext ι1 H1 ι' (hd (some D) H') ∧ RelS X.K X.w cl ι' s' (hd (some D) H') ∧ H' D = some (.lst vs) ∧ RelDs X.K X.w cl ι' (hd (some D) H') acc vs ∧ acc.length ≤ i + 1 ∧
      mapL p.2 p.1 g mt m (p.1.drop (i + 1)) (wipeD ρ ow) s' = .ok ds' s2 ∧ acc ++ ds' = ds, fun H' ⟨h5, h6⟩ => ⟨p.1.length - (i + 1), by omega, rfl, h5, h6⟩, fun x H3 y => ?_⟩
    obtain ⟨sameD, d, ed2, x3, r3, rd⟩ := yl x H3 y
    rw [List.getElem?_eq_getElem hlt] at ed2
    cases ed2
    have hD3 : H3 D = some (.lst vs) := by rw [sameD D rfl]; exact hD2
    have en3 : RelE X.K X.w cl ι2 (hd (some D) H3) (wipeD ρ ow) (L2.wipe σ ow) := (((en.ext x1).ext x2).ext x3).wipe _
    cases e4 : g p.1[i] (wipeD ρ ow) s3 with
    | bad => rw [e4] at em; cases em
    | exc x s4 => rw [e4] at em; cases em
    | ok ρ4 s4 =>
    rw [e4] at em
    simp only at em
    refine G.run (z := some D) en3 rd e4 fun es σ4 en4 hw => ⟨by rw [hw, wipe_wipe], D, vs, hD3, ρ4, ι2, s4, en4, by rw [es]; exact r3, ?_⟩
    cases e5 : mt ρ4 s4 with
    | bad => rw [e5] at em; cases em
    | exc x s5 => rw [e5] at em; cases em
    | ok b s5 =>
    rw [e5] at em
    intro ι5 H5 x5 r5 hn5
    have h5 : hd (some D) (upd H5 D (.lst vs)) = H5 := by rw [hd_upd, hd_id hn5]
    cases b with
    | true =>
      simp only [if_true] at em ⊢
      refine ⟨D, vs, upd_same, ρ4, ι5, s5, by rw [h5]; exact en4.ext x5, by rw [h5]; exact r5, ?_⟩
      cases e6 : m ρ4 s5 with
      | bad => rw [e6] at em; cases em
      | exc x s6 => rw [e6] at em; cases em
      | ok d6 s6 =>
      rw [e6] at em
      intro ι6 H6 v6 x6 r6 rd6 hn6
      rw [h5] at x6
      simp only at em
      cases e7 : mapL p.2 p.1 g mt m (p.1.drop (i + 1)) (wipeD ρ ow) s6 with
      | bad => rw [e7] at em; cases em
      | exc x s7 => rw [e7] at em; cases em
      | ok ds7 s7 =>
      rw [e7] at em
      cases em
      have hvl : vs.length = acc.length := rv.length.symm
      have h6 : hd (some D) (upd (upd H6 D (.lst vs)) D (.lst (vs ++ [v6]))) = H6 := by rw [hd_upd, hd_upd, hd_id hn6]
      refine ⟨vs, upd_same, by omega, hlt, ι6, s6, acc ++ [d6], vs ++ [v6], ds7, ?_, ?_, upd_same, ?_, ?_, e7, by rw [List.append_assoc]; exact ed⟩
      · rw [h6]; exact ((x2.trans x3).trans x5).trans x6
      · rw [h6]; exact r6
      · rw [h6]; exact (((rv.ext x3).ext x5).ext x6).append (.cons rd6 .nil)
      · rw [List.length_append]; exact Nat.succ_le_succ hacc
    | false =>
      simp only [Bool.false_eq_true, if_false] at em ⊢
      refine ⟨hlt, ι5, s5, acc, vs, ds', ?_, ?_, upd_same, ?_, by omega, em, ed⟩
      · rw [h5]; exact (x2.trans x3).trans x5
      · rw [h5]; exact r5
      · rw [h5]; exact (rv.ext x3).ext x5
  · have e : p.1.drop i = [] := List.drop_eq_nil_of_le (by omega)
    rw [e] at em
    unfold mapL at em
    by_cases hg2 : gOk p.2 p.1 s3
    · rw [if_pos hg2] at em
      cases em
      rw [List.append_nil] at ed
      subst ed
      have nD : H2 D ≠ none := by rw [hD2]; exact fun z => nomatch z
      refine .inl ⟨(iok (some D) i ι2 H2 _ nD2 x2 r2 hg2).2 (by omega), ?_⟩
      have rs2 := r2.unhide nD
      have nDi : D ∉ ι2 := r2.notin hd_self
      refine h (ι2 ++ [D]) H2 (.ref D) ((x1.trans x2).trans Ext.adopt) (r2.adopt nDi ⟨vs, hD2, rv.ext Ext.adopt⟩) (.ref ?_)
      rw [List.getElem?_append_right (by rw [r2.len]; exact Nat.le_refl _), r2.len]
      simp
    · rw [if_neg hg2] at em; cases em
theorem se_lcN {X : Cx} {cl : Cl} {W : Wish} {elt tg iter : Expr} {ifs : List Expr} {scope : Scope} {own : List (Str × Nat)} {pos : Pos} {it : MI} {g : MG} {mt : MT} {m : ME} {tg' : TG}
    (hc : X.calm = true) (hN : X.N.Nodup) (hi : SI X cl W tg iter it) (ok : BlkOk X.N X.env.scope scope own) (G : OwnG X.K tg' g (own.map (·.2)))
    (hg : ∀ (s : Shared) (H : Hp) (C : Addr) (cs : List (Str × Addr)) (fp : List Addr), PG (X.blk s H scope (compEnvC scope cs C X.env) fp) tg tg')
    (ht : ∀ (s : Shared) (H : Hp) (C : Addr) (cs : List (Str × Addr)) (fp : List Addr), SP1 (X.blk s H scope (compEnvC scope cs C X.env) fp) cl W0 ifs mt)
    (he : ∀ (s : Shared) (H : Hp) (C : Addr) (cs : List (Str × Addr)) (fp : List Addr), SE (X.blk s H scope (compEnvC scope cs C X.env) fp) cl W0 elt m)
    (hs : ∀ x, foldedSetIterable iter X.env x = pure x := by intro _; rfl) : SE X cl W (.ListComp elt [⟨tg, iter, ifs, 0⟩] scope pos) (mLcN it g mt m (own.map (·.2))) := by
  obtain ⟨wi, p1, q1⟩ := hi.ex
  have ht' : ∀ (s : Shared) (H : Hp) (C : Addr) (cs : List (Str × Addr)) (fp : List Addr), PTs (X.blk s H scope (compEnvC scope cs C X.env) fp) ifs (fun σ H Q => ∃ D, tHideT D (tOfT X.K X.w cl mt) σ H Q) := fun s H C cs fp => pts_hideA (SP1.pe (ht s H C cs fp))
  have he' : ∀ (s : Shared) (H : Hp) (C : Addr) (cs : List (Str × Addr)) (fp : List Addr), PE (X.blk s H scope (compEnvC scope cs C X.env) fp) elt (fun σ H Q => ∃ D, tHide D (tOfE X.K X.w cl m) σ H Q) := fun s H C cs fp => pe_hideA (SE.pe (he s H C cs fp))
  exact ⟨_, pe_lc hc hN p1 ok hg ht' he' hs, fun σ H Q ρ ι s en r h => lc_readN (W := W) G q1 en r h⟩
/-- y = [..] on one line -/
theorem ss_setLcN {X : Cx} {cl : Cl} {W : Wish} {y : Str} {py spos : Pos} {elt tg iter : Expr} {ifs : List Expr} {scope : Scope} {own : List (Str × Nat)} {pos : Pos} {it : MI} {g : MG} {mt : MT} {m : ME} {tg' : TG} (i : Nat)
    (hc : X.calm = true) (hN : X.N.Nodup) (hi : SI X cl W tg iter it) (ok : BlkOk X.N X.env.scope scope own) (G : OwnG X.K tg' g (own.map (·.2)))
    (hg : ∀ (s : Shared) (H : Hp) (C : Addr) (cs : List (Str × Addr)) (fp : List Addr), PG (X.blk s H scope (compEnvC scope cs C X.env) fp) tg tg')
    (ht : ∀ (s : Shared) (H : Hp) (C : Addr) (cs : List (Str × Addr)) (fp : List Addr), SP1 (X.blk s H scope (compEnvC scope cs C X.env) fp) cl W0 ifs mt)
    (he : ∀ (s : Shared) (H : Hp) (C : Addr) (cs : List (Str × Addr)) (fp : List Addr), SE (X.blk s H scope (compEnvC scope cs C X.env) fp) cl W0 elt m)
    (hsw : swapsWith (.ListComp elt [⟨tg, iter, ifs, 0⟩] scope pos) (some (.Name y py)) spos.line X.env = pure true)
    (hy : X.N[i]? = some y := by rfl) (hyl : X.env.scope.names.lookup y = some .local := by rfl)
    (hs : ∀ x, foldedSetIterable iter X.env x = pure x := by intro _; rfl) : SS X cl W (.Assign [.Name y py] (.ListComp elt [⟨tg, iter, ifs, 0⟩] scope pos) spos) (sSet i (mLcN it g mt m (own.map (·.2)))) := by
  obtain ⟨wi, p1, q1⟩ := hi.ex
  have ht' : ∀ (s : Shared) (H : Hp) (C : Addr) (cs : List (Str × Addr)) (fp : List Addr), PTs (X.blk s H scope (compEnvC scope cs C X.env) fp) ifs (fun σ H Q => ∃ D, tHideT D (tOfT X.K X.w cl mt) σ H Q) := fun s H C cs fp => pts_hideA (SP1.pe (ht s H C cs fp))
  have he' : ∀ (s : Shared) (H : Hp) (C : Addr) (cs : List (Str × Addr)) (fp : List Addr), PE (X.blk s H scope (compEnvC scope cs C X.env) fp) elt (fun σ H Q => ∃ D, tHide D (tOfE X.K X.w cl m) σ H Q) := fun s H C cs fp => pe_hideA (SE.pe (he s H C cs fp))
  refine ⟨_, ps_setLc hc hN hy hyl hsw p1 ok hg ht' he' hs, fun Dn σ H ρ ι s en r h => ?_⟩
  refine lc_readN (W := W) G q1 en r (PoS.stepE en h fun d s1 ι1 H1 v e1 x1 r1 d1 h1 => h1 ι1 H1 _ (Ext.refl _ _) r1 ((en.ext x1).set d1))
end Pm
namespace Pm
open PySem PySem.Spec PyProof.Rows L2

/-! ### {k: v, ..}, the keys written out -/
def mergeD (kvs more : List (Key × D)) : List (Key × D) := more.foldl (fun acc kv => putD acc kv.1 kv.2) kvs
def mDisp (ks : List Key) (ms : MA) : ME := fun ρ s => (ms ρ (s ++ [.dK []])).bind fun ds s1 => match s1[s.length]? with
  | some (.dK []) => if ds.length = ks.length ∧ ks.length ≤ 15 then .ok (.ref s.length) (s1.set s.length (.dK (mergeD [] (ks.zip ds)))) else .bad
  | _ => .bad
section
variable {K : PySem.W.Frag} {w : World} {cl : Cl} {ι : List Addr} {H : Hp}
theorem RelK.zip : ∀ {ks : List Key} {ds : List D} {vs : List V}, RelDs K w cl ι H ds vs → RelK K w cl ι H (ks.zip ds) (ks.zip vs)
  | [], _, _, _ => by simp only [List.zip_nil_left]; exact .nil
  | k :: ks, _, _, .nil => .nil
  | k :: ks, _, _, .cons r t => .cons r (RelK.zip t)
theorem RelK.merge : ∀ {more : List (Key × D)} {more' : List (Key × V)} {kvs : List (Key × D)} {vs : List (Key × V)}, RelK K w cl ι H more more' → RelK K w cl ι H kvs vs → RelK K w cl ι H (mergeD kvs more) (mergeK vs more')
  | [], more', kvs, vs, t, q => by
    cases more' with
    | nil => exact q
    | cons p r => cases t.1
  | (k, d) :: more, ws, kvs, vs, t, q => by
    obtain ⟨v, vs', rfl, r, t⟩ := t.inv
    show RelK K w cl ι H (mergeD (putD kvs k d) more) (mergeK (putK vs k v) vs')
    exact RelK.merge t (q.put r)
end
structure SPP (X : Cx) (cl : Cl) (W : Wish) (pos : Pos) (keys : List (Option Expr)) (vals : List Expr) (ks : List Key) (ms : MA) : Prop where
  ex : ∃ trs, PPs X pos keys vals trs ∧ ∀ (σ : L2.St) (H : Hp) (Q : List (V × V) → Hp → Prop) ρ ι s, RelE X.K X.w cl ι H ρ σ → RelS X.K X.w cl ι s H →
    PoA X.K X.w cl W ι H σ (fun vs H' => ks.length = vs.length → Q ((ks.map kV).zip vs) H') (ms ρ s) → tPairs trs σ H Q
section
variable {X : Cx} {cl : Cl} {W : Wish} {pos : Pos} {keys : List (Option Expr)} {vals : List Expr} {ks : List Key} {ms : MA}
theorem spp_nil : SPP X cl W pos [] [] [] aNil := ⟨_, pps_nil, fun σ H Q ρ ι s _ r h => h ι H [] (Ext.refl _ _) r .nil rfl⟩
theorem spp_cons {k : Key} {e e2 : Expr} {m : ME} (hk : PE X e (tC (kV k))) (hv : SE X cl W e2 m) (hr : SPP X cl W pos keys vals ks ms) : SPP X cl W pos (some e :: keys) (e2 :: vals) (k :: ks) (aCons m ms) := by
  obtain ⟨t, p1, q1⟩ := hv.ex
  obtain ⟨trs, p2, q2⟩ := hr.ex
  refine ⟨_, pps_cons hk p1 p2, fun σ H Q ρ ι s en r h => ?_⟩
  show t σ H _
  refine q1 σ H _ ρ ι s en r (PoA.stepE h fun d s1 ι1 H1 v e1 x1 r1 d1 h1 => ?_)
  refine q2 σ H1 _ ρ ι1 s1 (en.ext x1) r1 (PoA.stepA h1 fun ds s2 ι2 H2 vs e2 x2 r2 d2 h2 => ?_)
  intro hl
  exact h2 ι2 H2 _ (Ext.refl _ _) r2 (.cons (d1.ext x2) d2) (by simp [hl])
theorem zip_kV : ∀ (ks : List Key) (vs : List V), (ks.map kV).zip vs = (ks.zip vs).map fun kv => (kV kv.1, kv.2)
  | [], vs => by simp
  | k :: ks, [] => by simp
  | k :: ks, v :: vs => by simp [zip_kV ks vs]
theorem se_disp (h : SPP X cl W pos keys vals ks ms) (hall : keys.all (·.isSome) = true := by rfl) (hl : keys.length = vals.length := by rfl) (h0 : keys ≠ [] := by exact fun z => nomatch z) (h15 : keys.length ≤ 15 := by decide) : SE X cl W (.Dict keys vals pos) (mDisp ks ms) := by
  obtain ⟨trs, p1, q1⟩ := h.ex
  refine ⟨_, pe_disp p1 hall hl h0 h15, fun σ H Q ρ ι s en r h => ?_⟩
  intro p hp
  have xp : Ext ι H (ι ++ [p]) (upd H p (.dK [])) := Ext.push hp
  have rp : RelS X.K X.w cl (ι ++ [p]) (s ++ [.dK []]) (upd H p (.dK [])) := r.push hp ⟨[], upd_same, rfl, .nil⟩
  have hx : (ι ++ [p])[s.length]? = some p := by rw [List.getElem?_append_right (by rw [r.len]; exact Nat.le_refl _), r.len]; simp
  refine q1 σ _ _ ρ (ι ++ [p]) (s ++ [.dK []]) (en.ext xp) rp ?_
  unfold mDisp at h
  cases e1 : ms ρ (s ++ [.dK []]) with
  | bad => rw [e1] at h; exact h
  | exc x s1 => rw [e1] at h; exact fun ι2 H2 c dd x2 => h ι2 H2 c dd (xp.trans x2)
  | ok ds s1 =>
  rw [e1] at h
  intro ι2 H2 vs x2 r2 rd hlen
  simp only [R.bind] at h
  cases e2 : s1[s.length]? with
  | none => rw [e2] at h; exact False.elim h
  | some o =>
  rw [e2] at h
  cases o with
  | lst xs => exact False.elim h
  | ins c fs => exact False.elim h
  | dK kvs =>
  cases kvs with
  | cons a b => exact False.elim h
  | nil =>
  simp only at h
  split at h
  · rename_i hc
    obtain ⟨a, ea, vs0, hv, hk, _⟩ := r2.at_ _ _ e2
    rw [x2.at hx] at ea
    obtain rfl := Option.some.inj ea
    have hv0 : vs0 = [] := by
      cases vs0 with
      | nil => rfl
      | cons q r => cases hk
    subst hv0
    refine ⟨hv, ks.zip vs, zip_kV ks vs, by rw [List.length_zip]; omega, ?_⟩
    have hn : ι2[s.length]? = some p := x2.at hx
    have hm := List.mem_of_getElem? hn
    have xw : Ext ι2 H2 ι2 (upd H2 p (.dK (mergeK [] (ks.zip vs)))) := Ext.write hm
    have rk : RelK X.K X.w cl ι2 H2 (mergeD [] (ks.zip ds)) (mergeK [] (ks.zip vs)) := RelK.merge (RelK.zip rd) .nil
    exact h ι2 _ _ ((xp.trans x2).trans xw) (r2.write hn ⟨_, upd_same, (rk.ext xw).1, (rk.ext xw).2⟩) (.ref hn)
  · exact False.elim h
end
/-! ### text * number -/
def dMulS (x y : D) (s : S) : R D := match x, y with
  | .str a, .int n => if n ≤ 0 ∧ -(2 ^ 62) ≤ n then .ok (.str Str.empty) s else if n = 1 then .ok (.str a) s else .bad
  | x, y => dMul x y s
section
variable {X : Cx} {cl : Cl}
theorem op_mulS0 : OpR X (binaryOp .Mult) (fun x y H Q => ∃ a n, x = .str a ∧ y = .int n ∧ n ≤ 0 ∧ -(2 ^ 62) ≤ n ∧ Q (.str Str.empty) H) := by
  intro pins s σ H x y v u Q I rx ry h
  obtain ⟨a, n, rfl, rfl, h0, h1, q⟩ := h
  obtain ⟨t, rfl⟩ := rx
  obtain ⟨t', rfl⟩ := ry
  exact P.mul_str_none (by omega) (by omega) ⟨.str Str.empty, H, I.tok _, ⟨_, rfl⟩, q⟩
theorem op_mulS1 : OpR X (binaryOp .Mult) (fun x y H Q => ∃ a, x = .str a ∧ y = .int 1 ∧ Q (.str a) H) := by
  intro pins s σ H x y v u Q I rx ry h
  obtain ⟨a, rfl, rfl, q⟩ := h
  obtain ⟨t, rfl⟩ := rx
  obtain ⟨t', rfl⟩ := ry
  refine P.mul_str (by decide) (fun _ z => by simp at z) (fun _ z => by simp at z) ?_
  rw [if_neg (by decide), if_pos (by simp)]
  exact ⟨.str a, H, I, ⟨_, rfl⟩, q⟩
theorem d_mulS : OpD X cl (binaryOp .Mult) dMulS := by
  intro W ι H σ Q s dx dy x y rs rx ry h
  unfold dMulS at h
  split at h
  · cases rx; cases ry
    split at h
    · rename_i hn
      exact ⟨_, op_mulS0, _, _, rfl, rfl, hn.1, hn.2, h ι H _ (Ext.refl _ _) rs (.str _)⟩
    · split at h
      · rename_i h1
        subst h1
        exact ⟨_, op_mulS1, _, rfl, rfl, h ι H _ (Ext.refl _ _) rs (.str _)⟩
      · exact False.elim h
  · exact d_mul W ι H σ Q s dx dy x y rs rx ry h
end
end Pm
namespace Pm
open PySem PySem.Spec PyProof.Rows L2
/-! ### a + b of lists, the new list a thing of the store -/
def dAddN (x y : D) (s : S) : R D := match lview s x, lview s y with
  | some a, some b => if a.length + b.length ≤ sizeLine then .ok (.ref s.length) (s ++ [.lst (a ++ b)]) else .bad
  | _, _ => dAdd x y s
section
variable {X : Cx} {cl : Cl}
theorem d_addN : OpD X cl (binaryOp .Add) dAddN := by
  intro W ι H σ Q s dx dy x y rs rx ry h
  unfold dAddN at h
  split at h
  · rename_i a b e1 e2
    split at h
    · rename_i hl
      obtain ⟨p, vs, rfl, h1, r1⟩ := lview_at rs rx e1
      obtain ⟨q, us, rfl, h2, r2⟩ := lview_at rs ry e2
      refine ⟨_, op_catS, p, q, vs, us, rfl, rfl, h1.sq, h2.sq, by rw [← r1.length, ← r2.length]; exact hl, fun l hn => ?_⟩
      obtain ⟨x1, x2, x3⟩ := new_ref rs (r1.append r2) hn
      exact h _ _ _ x1 x2 x3
    · exact False.elim h
  · exact d_add W ι H σ Q s dx dy x y rs rx ry h
end
end Pm
namespace Pm
open PySem PySem.Spec PyProof.Rows L2

/-! ### numbers of exceptions -/
mutual
def kxD : D → Nat
  | .tup xs => kxDs xs
  | .lst xs => kxDs xs
  | .ins _ fs => kxFs fs
  | .dic kvs => kxFs kvs
  | .exn k _ _ => k + 1
  | _ => 0
def kxDs : List D → Nat
  | [] => 0
  | x :: xs => max (kxD x) (kxDs xs)
def kxFs : List (Str × D) → Nat
  | [] => 0
  | (_, x) :: xs => max (kxD x) (kxFs xs)
end
def kxO : O → Nat
  | .lst xs => kxDs xs
  | .ins _ fs => kxFs fs
  | .dK kvs => kxDs (kvs.map (·.2))
def kxS : S → Nat
  | [] => 0
  | o :: s => max (kxO o) (kxS s)
def kxR : Rho → Nat
  | [] => 0
  | some d :: ρ => max (kxD d) (kxR ρ)
  | none :: ρ => kxR ρ
theorem kxS_at : ∀ {s : S} {n : Nat} {o : O}, s[n]? = some o → kxO o ≤ kxS s
  | [], n, o, h => by simp at h
  | o' :: s, 0, o, h => by cases h; exact Nat.le_max_left _ _
  | o' :: s, n + 1, o, h => Nat.le_trans (kxS_at (s := s) (n := n) h) (Nat.le_max_right _ _)
theorem kxR_at : ∀ {ρ : Rho} {n : Nat} {d : D}, ρ[n]? = some (some d) → kxD d ≤ kxR ρ
  | [], n, o, h => by simp at h
  | some d' :: s, 0, o, h => by cases h; exact Nat.le_max_left _ _
  | none :: s, 0, o, h => by cases h
  | some d' :: s, n + 1, o, h => Nat.le_trans (kxR_at (ρ := s) (n := n) h) (Nat.le_max_right _ _)
  | none :: s, n + 1, o, h => kxR_at (ρ := s) (n := n) h
section
variable {K : PySem.W.Frag} {w : World} {cl : Cl} {ι : List Addr} {H : Hp} {k : Nat} {t : Addr × Addr × Addr}
mutual
theorem RelD.enter (hx : cl.ex = none) : ∀ {d : D} {v : V}, RelD K w cl ι H d v → kxD d ≤ k → RelD K w ⟨cl.of, some (k, t)⟩ ι H d v
  | _, _, .non, _ => .non
  | _, _, .bl b, _ => .bl b
  | _, _, .int i, _ => .int i
  | _, _, .str y, _ => .str y
  | _, _, .tup h r, l => .tup h (RelDs.enter hx r (by simpa [kxD] using l))
  | _, _, .lst h r, l => .lst h (RelDs.enter hx r (by simpa [kxD] using l))
  | _, _, .ref h, _ => .ref h
  | _, _, .ins hc hk h ha r, l => .ins hc hk h ha (RelFs.enter hx r (by simpa [kxD] using l))
  | _, _, .glo a, _ => .glo a
  | _, _, .ty m, _ => .ty m
  | _, _, .dic h r, l => .dic h (RelFs.enter hx r (by simpa [kxD] using l))
  | _, _, .exn he _ _ _ _, _ => by rw [hx] at he; cases he
  | _, _, .old _, l => .old fun t ht z => by
      cases ht
      simp only [kxD] at l
      simp only at z
      omega
theorem RelDs.enter (hx : cl.ex = none) : ∀ {ds : List D} {vs : List V}, RelDs K w cl ι H ds vs → kxDs ds ≤ k → RelDs K w ⟨cl.of, some (k, t)⟩ ι H ds vs
  | _, _, .nil, _ => .nil
  | _, _, .cons r q, l => .cons (RelD.enter hx r (by simp only [kxDs] at l; omega)) (RelDs.enter hx q (by simp only [kxDs] at l; omega))
theorem RelFs.enter (hx : cl.ex = none) : ∀ {ds : List (Str × D)} {vs : List (Str × V)}, RelFs K w cl ι H ds vs → kxFs ds ≤ k → RelFs K w ⟨cl.of, some (k, t)⟩ ι H ds vs
  | _, _, .nil, _ => .nil
  | _, _, .cons r q, l => .cons (RelD.enter hx r (by simp only [kxFs] at l; omega)) (RelFs.enter hx q (by simp only [kxFs] at l; omega))
end
mutual
theorem RelD.leave (hx : cl.ex = none) {e : Option (Nat × Addr × Addr × Addr)} : ∀ {d : D} {v : V}, RelD K w ⟨cl.of, e⟩ ι H d v → RelD K w cl ι H d v
  | _, _, .non => .non
  | _, _, .bl b => .bl b
  | _, _, .int i => .int i
  | _, _, .str y => .str y
  | _, _, .tup h r => .tup h (RelDs.leave hx r)
  | _, _, .lst h r => .lst h (RelDs.leave hx r)
  | _, _, .ref h => .ref h
  | _, _, .ins hc hk h ha r => .ins hc hk h ha (RelFs.leave hx r)
  | _, _, .glo a => .glo a
  | _, _, .ty m => .ty m
  | _, _, .dic h r => .dic h (RelFs.leave hx r)
  | _, _, .exn _ _ _ _ _ => .old fun t ht => by rw [hx] at ht; cases ht
  | _, _, .old _ => .old fun t ht => by rw [hx] at ht; cases ht
theorem RelDs.leave (hx : cl.ex = none) {e : Option (Nat × Addr × Addr × Addr)} : ∀ {ds : List D} {vs : List V}, RelDs K w ⟨cl.of, e⟩ ι H ds vs → RelDs K w cl ι H ds vs
  | _, _, .nil => .nil
  | _, _, .cons r q => .cons (RelD.leave hx r) (RelDs.leave hx q)
theorem RelFs.leave (hx : cl.ex = none) {e : Option (Nat × Addr × Addr × Addr)} : ∀ {ds : List (Str × D)} {vs : List (Str × V)}, RelFs K w ⟨cl.of, e⟩ ι H ds vs → RelFs K w cl ι H ds vs
  | _, _, .nil => .nil
  | _, _, .cons r q => .cons (RelD.leave hx r) (RelFs.leave hx q)
end
theorem RelS.enter (hx : cl.ex = none) {s : S} (r : RelS K w cl ι s H) (hk : kxS s ≤ k) : RelS K w ⟨cl.of, some (k, t)⟩ ι s H := by
  refine ⟨r.len, r.nd, fun n o e => ?_⟩
  obtain ⟨a, ha, ro⟩ := r.at_ n o e
  have hl := Nat.le_trans (kxS_at e) hk
  refine ⟨a, ha, ?_⟩
  cases o with
  | lst xs => obtain ⟨vs, hv, rv⟩ := ro; exact ⟨vs, hv, rv.enter hx hl⟩
  | ins c fs => obtain ⟨A, dx, vs, hc, hk, hv, rv⟩ := ro; exact ⟨A, dx, vs, hc, hk, hv, rv.enter hx hl⟩
  | dK kvs => obtain ⟨vs, hv, hk, rv⟩ := ro; exact ⟨vs, hv, hk, rv.enter hx hl⟩
theorem RelS.leave (hx : cl.ex = none) {e : Option (Nat × Addr × Addr × Addr)} {s : S} (r : RelS K w ⟨cl.of, e⟩ ι s H) : RelS K w cl ι s H := by
  refine ⟨r.len, r.nd, fun n o e => ?_⟩
  obtain ⟨a, ha, ro⟩ := r.at_ n o e
  refine ⟨a, ha, ?_⟩
  cases o with
  | lst xs => obtain ⟨vs, hv, rv⟩ := ro; exact ⟨vs, hv, rv.leave hx⟩
  | ins c fs => obtain ⟨A, dx, vs, hc, hk, hv, rv⟩ := ro; exact ⟨A, dx, vs, hc, hk, hv, rv.leave hx⟩
  | dK kvs => obtain ⟨vs, hv, hk, rv⟩ := ro; exact ⟨vs, hv, hk, rv.leave hx⟩
theorem RelE.enter (hx : cl.ex = none) {ρ : Rho} {σ : L2.St} (r : RelE K w cl ι H ρ σ) (hk : kxR ρ ≤ k) : RelE K w ⟨cl.of, some (k, t)⟩ ι H ρ σ :=
  ⟨r.len, fun i d h => let ⟨v, hv, rv⟩ := r.at_ i d h; ⟨v, hv, rv.enter hx (Nat.le_trans (kxR_at h) hk)⟩⟩
theorem RelE.leave (hx : cl.ex = none) {e : Option (Nat × Addr × Addr × Addr)} {ρ : Rho} {σ : L2.St} (r : RelE K w ⟨cl.of, e⟩ ι H ρ σ) : RelE K w cl ι H ρ σ :=
  ⟨r.len, fun i d h => let ⟨v, hv, rv⟩ := r.at_ i d h; ⟨v, hv, rv.leave hx⟩⟩
theorem RelE.none {ρ : Rho} {σ : L2.St} {i : Nat} {o : Option V} (r : RelE K w cl ι H ρ σ) : RelE K w cl ι H (ρ.set i none) (σ.set i o) := by
  refine ⟨by rw [List.length_set, List.length_set]; exact r.len, fun j d h => ?_⟩
  by_cases hij : i = j
  · subst hij
    by_cases hi : i < ρ.length
    · rw [List.getElem?_set_self hi] at h
      cases h
    · rw [List.getElem?_eq_none (by rw [List.length_set]; omega)] at h
      cases h
  · rw [List.getElem?_set_ne hij] at h ⊢
    exact r.at_ j d h
end

/-! ### try -/
/-- a clause: which classes it takes, the slot of its name, its suite -/
structure Hd where
  p : Str → Option Bool
  i : Option Nat
  m : Nat → MS
def setO (i : Option Nat) (o : Option D) (ρ : Rho) : Rho := match i with
  | some i => ρ.set i o
  | none => ρ
def hdEnd (i : Option Nat) : RS → RS
  | .ok (.nx ρ) s => .ok (.nx (setO i none ρ)) s
  | .ok (.bk ρ) s => .ok (.bk (setO i none ρ)) s
  | .ok (.ct ρ) s => .ok (.ct (setO i none ρ)) s
  | .ok (.rt d) s => .ok (.rt d) s
  | _ => .bad
def kxx (ρ : Rho) (s : S) (fs : List (Str × D)) : Nat := max (max (kxR ρ) (kxS s)) (kxFs fs)
def hdM (c : Str) (fs : List (Str × D)) (ρ : Rho) (s : S) : List Hd → RS
  | [] => .exc (.ins c fs) ρ s
  | h :: r => match h.p c with
    | some true => hdEnd h.i (h.m (kxx ρ s fs) (setO h.i (some (.exn (kxx ρ s fs) c fs)) ρ) s)
    | some false => hdM c fs ρ s r
    | none => .bad
def sTry (b : MS) (hs : List Hd) : MS := fun ρ s => match b ρ s with
  | .exc (.ins c fs) ρ1 s1 => hdM c fs ρ1 s1 hs
  | .exc _ _ _ => .bad
  | r => r
/-- what a block's simulation says, told at the data's level -/
def tOfS (K : PySem.W.Frag) (w : World) (cl : Cl) (W : Wish) (m : MS) : TS := fun Dn σ H => ∃ ρ ι s, RelE K w cl ι H ρ σ ∧ RelS K w cl ι s H ∧ PoS K w cl W ι H Dn (m ρ s)
theorem PSs.wk {X : Cx} {sts : List Stmt} {t t' : TS} (h : PSs X sts t) (k : ∀ D σ H, t' D σ H → t D σ H) : PSs X sts t' := ⟨fun pins s σ H D I q => h.run pins s σ H D I (k _ _ _ q)⟩
theorem SSs.pss {X : Cx} {cl : Cl} {W : Wish} {sts : List Stmt} {m : MS} (h : SSs X cl W sts m) : PSs X sts (tOfS X.K X.w cl W m) := by
  obtain ⟨t, p, q⟩ := h.ex
  exact PSs.wk p fun D σ H ⟨ρ, ι, s, e, r, z⟩ => q D σ H ρ ι s e r z
/-- a suite: the exception a of the class at A, its dict at dd -/
def tSu (K : PySem.W.Frag) (w : World) (c0 : Str → Option Addr) (m : Nat → MS) (a : Addr) (cls : Value) (d : Option Addr) : TS := fun Dn σ H =>
  ∃ k A dd, cls = .ref A ∧ d = some dd ∧ tOfS K w ⟨c0, some (k, a, dd, A)⟩ W0 (m k) Dn σ H
/-- the suite's simulation, whichever exception it holds -/
structure SU (X : Cx) (c0 : Str → Option Addr) (sts : List Stmt) (m : Nat → MS) : Prop where
  su : ∀ (k : Nat) (a dd A : Addr) (oe : Obj) (pn : List (Addr × Obj)), Zc (.ref A) (some dd) oe → (∃ vs, oe.data = .fields vs) → SSs (X.suite a ((a, oe) :: pn)) ⟨c0, some (k, a, dd, A)⟩ W0 sts (m k)
theorem SU.pss {X : Cx} {c0 : Str → Option Addr} {sts : List Stmt} {m : Nat → MS} (h : SU X c0 sts m) (a : Addr) (oe : Obj) (cls : Value) (d : Option Addr) (pn : List (Addr × Obj)) (hz : Zc cls d oe) (hf : ∃ vs, oe.data = .fields vs) :
    PSs (X.suite a ((a, oe) :: pn)) sts (tSu X.K X.w c0 m a cls d) := by
  refine ⟨fun pins s σ H D I q => ?_⟩
  obtain ⟨k, A, dd, rfl, rfl, q⟩ := q
  exact (h.su k a dd A oe pn hz hf).pss.run pins s σ H D I q
/-- the class c of an exception is at A -/
def HdOk (K : PySem.W.Frag) (cl : Cl) (c : Value) (p : Str → Option Bool) : Prop := ∀ (C : Str) (A : Addr) (b : Bool), cl C = some A → p C = some b → PySem.W.exmOne K (.ref A) c = some b
section
variable {X : Cx} {cl : Cl} {W : Wish} {body : List Stmt} {mb : MS} {pos : Pos}
/-- what the body's end asks when it is caught -/
def wTr (K : PySem.W.Frag) (w : World) (cl : Cl) (W : Wish) (Dn : Ends) (hs : List Hd) : Wish := fun c d σ H =>
  ∃ C fs ρ ι s, RelX K w cl ι H (.ins C fs) c d ∧ RelE K w cl ι H ρ σ ∧ RelS K w cl ι s H ∧ PoS K w cl W ι H Dn (hdM C fs ρ s hs)
theorem try_po {K : PySem.W.Frag} {w : World} {ι : List Addr} {H : Hp} {Dn : Ends} {hs : List Hd} {ρ : Rho} {s : S} (h : PoS K w cl W ι H Dn (sTry mb hs ρ s)) : PoS K w cl (wTr K w cl W Dn hs) ι H Dn (mb ρ s) := by
  unfold sTry at h
  cases e : mb ρ s with
  | bad => rw [e] at h; exact h
  | ok c s1 => rw [e] at h; cases c <;> exact h
  | exc x ρ1 s1 =>
    rw [e] at h
    intro ι1 H1 σ1 c d x1 r1 e1 rx
    obtain ⟨C, fs, A, rfl, _⟩ := id rx
    exact ⟨C, fs, ρ1, ι1, s1, rx, e1, r1, PoS.ext x1 h⟩
/-- the end of a suite -/
theorem hd_po {K : PySem.W.Frag} {w : World} {ι : List Addr} {H : Hp} {Dn : Ends} {o : Option Nat} {r : RS} {e : Option (Nat × Addr × Addr × Addr)} (hx : cl.ex = none) (h : PoS K w cl W ι H Dn (hdEnd o r)) {Dn' : Ends}
    (hn : ∀ ρ' σ' ι' H', RelE K w cl ι' H' ρ' σ' → (∀ σ'', RelE K w cl ι' H' (setO o none ρ') σ'' → Dn.nx σ'' H') → Dn'.nx σ' H') (hb : ∀ ρ' σ' ι' H', RelE K w cl ι' H' ρ' σ' → (∀ σ'', RelE K w cl ι' H' (setO o none ρ') σ'' → Dn.bk σ'' H') → Dn'.bk σ' H')
    (hc : ∀ ρ' σ' ι' H', RelE K w cl ι' H' ρ' σ' → (∀ σ'', RelE K w cl ι' H' (setO o none ρ') σ'' → Dn.ct σ'' H') → Dn'.ct σ' H') (hr : ∀ v H', Dn.rt v H' → Dn'.rt v H') : PoS K w ⟨cl.of, e⟩ W0 ι H Dn' r := by
  cases r with
  | bad => exact h
  | exc x ρ s => exact False.elim h
  | ok c s =>
    cases c with
    | nx ρ => exact fun ι' H' σ x' r' e' => hn ρ σ ι' H' (e'.leave hx) fun σ'' e'' => h ι' H' σ'' x' (r'.leave hx) e''
    | bk ρ => exact fun ι' H' σ x' r' e' => hb ρ σ ι' H' (e'.leave hx) fun σ'' e'' => h ι' H' σ'' x' (r'.leave hx) e''
    | ct ρ => exact fun ι' H' σ x' r' e' => hc ρ σ ι' H' (e'.leave hx) fun σ'' e'' => h ι' H' σ'' x' (r'.leave hx) e''
    | rt d => exact fun ι' H' v x' r' d' => hr v H' (h ι' H' v x' (r'.leave hx) (d'.leave hx))
/-- into a suite -/
theorem su_in {K : PySem.W.Frag} {w : World} {ι : List Addr} {H : Hp} {C : Str} {fs : List (Str × D)} {c : Value} {d : Option Addr} {ρ : Rho} {σ : L2.St} {s : S} {m : Nat → MS} {a : Addr} {o : Option Nat} {σ' : L2.St} {Dn' : Ends} (hx : cl.ex = none) (rx : RelX K w cl ι H (.ins C fs) c d) (rn : ∀ dd, d = some dd → dd ∉ ι)
    (re : RelE K w cl ι H ρ σ) (rs : RelS K w cl ι s H) (hσ : ∀ e, RelE K w ⟨cl.of, e⟩ ι H ρ σ → ∀ x, RelD K w ⟨cl.of, e⟩ ι H x (.ref a) → RelE K w ⟨cl.of, e⟩ ι H (setO o (some x) ρ) σ')
    (h : ∀ k A dd, PoS K w ⟨cl.of, some (k, a, dd, A)⟩ W0 ι H Dn' (m (kxx ρ s fs) (setO o (some (.exn (kxx ρ s fs) C fs)) ρ) s)) : tSu K w cl.of m a c d Dn' σ' H := by
  obtain ⟨C', fs', A, e0, hc, rfl, dd, vs, rfl, hd, rf⟩ := rx
  cases e0
  refine ⟨kxx ρ s fs, A, dd, rfl, rfl, setO o (some (.exn (kxx ρ s fs) C fs)) ρ, ι, s, ?_, rs.enter hx ?_, h _ _ _⟩
  · refine hσ _ (re.enter hx ?_) _ (.exn rfl hc hd (rn dd rfl) (rf.enter hx ?_)) <;> unfold kxx <;> omega
  · unfold kxx; omega
theorem RelS.xd_notin {K : PySem.W.Frag} {w : World} {ι : List Addr} {H : Hp} {s : S} {dd : Addr} {vs : List (Str × V)} (r : RelS K w cl ι s H) (h : H dd = some (.xd vs)) : dd ∉ ι := fun m => by
  obtain ⟨n, hn⟩ := List.getElem?_of_mem m
  have hl : n < s.length := by rw [← r.len]; exact (List.getElem?_eq_some_iff.mp hn).1
  obtain ⟨a, ha, ro⟩ := r.at_ n _ (List.getElem?_eq_getElem hl)
  rw [hn] at ha
  cases ha
  cases e : s[n] with
  | lst xs => rw [e] at ro; obtain ⟨_, hv, _⟩ := ro; rw [h] at hv; cases hv
  | ins c fs => rw [e] at ro; obtain ⟨_, _, _, _, _, hv, _⟩ := ro; rw [h] at hv; cases hv
  | dK kvs => rw [e] at ro; obtain ⟨_, hv, _⟩ := ro; rw [h] at hv; cases hv
theorem PoS.impW {K : PySem.W.Frag} {w : World} {ι : List Addr} {H : Hp} {Dn : Ends} {W' : Wish} {r : RS} (h : PoS K w cl W ι H Dn r) (k : ∀ c d σ H, W c d σ H → W' c d σ H) : PoS K w cl W' ι H Dn r := by
  cases r with
  | bad => exact h
  | exc x ρ s => exact fun ι' H' σ c d x' r' e' q => k _ _ _ _ (h ι' H' σ c d x' r' e' q)
  | ok c s => cases c <;> exact h
variable {x n : Str} {c : Value} {i : Nat} {suite : List Stmt} {b₀ : Stmt} {np pos' : Pos} {p : Str → Option Bool} {m : Nat → MS}
/-- try .. except x as n -/
theorem ss_try_as (hx : cl.ex = none) (hs : X.stack = X.env :: X.outer) (hf : X.env.frame = some X.env.locals) (hN : X.N.Nodup) (hi : X.N[i]? = some n) (hln : X.env.kindOf n = some .local) (hc : Names X x c) (tk : L2.Takes X W) (hp : HdOk X.K cl c p)
    (hb : ∀ (W' : WX) (pn : List (Addr × Obj)) (xe : Value → Shared → Prop), L2.Takes (X.tr pn xe) W' → PassesOwn (model X.prog X.w) X.A X.env xe → SSs (X.tr pn xe) cl W' body mb)
    (hsu : SU X cl.of (b₀ :: suite) m) : SS X cl W (.Try body [.ExceptHandler (some (.Name x np)) (some n) (b₀ :: suite) pos'] [] [] pos) (sTry mb [⟨p, some i, m⟩]) := by
  refine ⟨_, ps_try_as hs hf hN hi hln hc tk (tb := fun W' => tOfS X.K X.w cl W' mb) (fun W' pn xe t q => (hb W' pn xe t q).pss) hsu.pss, fun Dn σ H ρ ι s en rs h => ?_⟩
  refine ⟨ρ, ι, s, en, rs, PoS.impW (try_po h) fun cls d σ1 H1 ⟨C, fs, ρ1, ι1, s1, rx, e1, r1, hp1⟩ => ?_⟩
  obtain ⟨C', fs', A, e0, hcl, rfl, dd, vs, rfl, hd, rf⟩ := id rx
  cases e0
  unfold hdM at hp1
  simp only at hp1
  cases hpc : p C with
  | none => rw [hpc] at hp1; exact False.elim hp1
  | some b =>
    rw [hpc] at hp1
    refine ⟨b, hp C A b hcl hpc, fun hb' a ha => ?_, fun hb' => ?_⟩
    · subst hb'
      refine su_in (o := some i) (Dn' := _) hx rx (fun dd' e => by cases e; exact r1.xd_notin hd) e1 r1 (fun e he x hr => he.set hr) fun k A' dd' => ?_
      exact hd_po hx hp1 (fun ρ' σ' ι' H' e' k => k _ e'.none) (fun ρ' σ' ι' H' e' k => k _ e'.none) (fun ρ' σ' ι' H' e' k => k _ e'.none) fun v H' q => q
    · subst hb'
      exact hp1 ι1 H1 σ1 _ _ (Ext.refl _ _) r1 e1 rx
/-- try .. except x -/
theorem ss_try_only (hx : cl.ex = none) (hs : X.stack = X.env :: X.outer) (hf : X.env.frame = some X.env.locals) (hc : Names X x c) (tk : L2.Takes X W) (hp : HdOk X.K cl c p)
    (hb : ∀ (W' : WX) (pn : List (Addr × Obj)) (xe : Value → Shared → Prop), L2.Takes (X.tr pn xe) W' → PassesOwn (model X.prog X.w) X.A X.env xe → SSs (X.tr pn xe) cl W' body mb)
    (hsu : SU X cl.of (b₀ :: suite) m) : SS X cl W (.Try body [.ExceptHandler (some (.Name x np)) none (b₀ :: suite) pos'] [] [] pos) (sTry mb [⟨p, none, m⟩]) := by
  refine ⟨_, ps_try_only hs hf hc tk (tb := fun W' => tOfS X.K X.w cl W' mb) (fun W' pn xe t q => (hb W' pn xe t q).pss) hsu.pss, fun Dn σ H ρ ι s en rs h => ?_⟩
  refine ⟨ρ, ι, s, en, rs, PoS.impW (try_po h) fun cls d σ1 H1 ⟨C, fs, ρ1, ι1, s1, rx, e1, r1, hp1⟩ => ?_⟩
  obtain ⟨C', fs', A, e0, hcl, rfl, dd, vs, rfl, hd, rf⟩ := id rx
  cases e0
  unfold hdM at hp1
  simp only at hp1
  cases hpc : p C with
  | none => rw [hpc] at hp1; exact False.elim hp1
  | some b =>
    rw [hpc] at hp1
    refine ⟨b, hp C A b hcl hpc, fun hb' a ha => ?_, fun hb' => ?_⟩
    · subst hb'
      refine su_in (o := none) (Dn' := Dn) hx rx (fun dd' e => by cases e; exact r1.xd_notin hd) e1 r1 (fun e he x hr => he) fun k A' dd' => ?_
      exact hd_po hx hp1 (fun ρ' σ' ι' H' e' k => k _ e') (fun ρ' σ' ι' H' e' k => k _ e') (fun ρ' σ' ι' H' e' k => k _ e') fun v H' q => q
    · subst hb'
      exact hp1 ι1 H1 σ1 _ _ (Ext.refl _ _) r1 e1 rx
end

/-! ### within a suite: e.f, isinstance(e, X) -/
def mXf (k : Nat) (f : Str) (cs : List Str) (m : ME) : ME := fun ρ s => (m ρ s).bind fun d s1 => match d with
  | .exn j c fs => if j = k ∧ c ∈ cs then (match fs.lookup f with
    | some v => .ok v s1
    | none => .bad) else .bad
  | _ => .bad
def mXis (k : Nat) (tab : Str → Option Bool) (m : ME) : ME := fun ρ s => (m ρ s).bind fun d s1 => match d with
  | .exn j c _ => if j = k then (match tab c with
    | some b => .ok (.bl b) s1
    | none => .bad) else .bad
  | _ => .bad
/-- what isinstance asks of an exception's class -/
structure XIs (K : PySem.W.Frag) (C : Addr) : Prop where
  cl : (PySem.W.clsIn K C).isSome = true
  ga : PySem.W.findIn K (.ref C) "__getattribute__" = some (some (.builtin "BaseException.__getattribute__"))
  gg : PySem.W.findIn K (.ref C) "__getattr__" = some none
  su : PySem.W.subIn K (.ref C) (.type "BaseException") = some true
  ca : PySem.W.findIn K (.ref C) "__class__" = some (some (.builtin "object.__class__"))
  mr : PySem.W.mroIn K C (.type "object") = some true
section
variable {X : Cx} {cl : Cl} {c0 : Str → Option Addr} {W : Wish} {a A dd : Addr} {k : Nat} {oe : Obj} {pn : List (Addr × Obj)} {e ex : Expr} {es : List Expr} {m : ME} {f : Str} {cs : List Str} {pos p npos tpos : Pos} {x : Str} {kk : Nat} {tab : Str → Option Bool}
theorem se_xf (hcs : ∀ C ∈ cs, ∀ A', c0 C = some A' → XfC X.K A' ∧ PySem.W.findIn X.K (.ref A') f = some none) (hz : Zc (.ref A) (some dd) oe) (hf : ∃ vs, oe.data = .fields vs) (he : SE (X.suite a ((a, oe) :: pn)) ⟨c0, some (k, a, dd, A)⟩ W e m)
    (hb : attributeBase e f X.env (eval e X.env) = eval e X.env := by rfl) : SE (X.suite a ((a, oe) :: pn)) ⟨c0, some (k, a, dd, A)⟩ W (.Attribute e f pos) (mXf k f cs m) := by
  obtain ⟨t, p1, q1⟩ := he.ex
  by_cases hA : XfC X.K A ∧ PySem.W.findIn X.K (.ref A) f = some none
  · refine ⟨_, pe_xf hA.1 hA.2 hz hf p1 hb, fun σ H Q ρ ι s en r h => ?_⟩
    refine q1 σ H _ ρ ι s en r (PoE.step h fun d s1 ι1 H1 v e1 x1 r1 d1 h1 => ?_)
    split at h1
    · rename_i k' c fs
      split at h1
      · rename_i hk
        obtain ⟨rfl, _⟩ := hk
        split at h1
        · rename_i u hl
          cases d1 with
          | exn he hc hd ha rf =>
            cases he
            obtain ⟨v, hv, rv⟩ := fs_lookup rf hl
            exact ⟨rfl, rfl, _, _, v, rfl, hd, hv, h1 ι1 H1 v (Ext.refl _ _) r1 rv⟩
          | old he => exact absurd rfl (he _ rfl)
        · exact False.elim h1
      · exact False.elim h1
    · exact False.elim h1
  · refine ⟨fun σ H Q => t σ H fun _ _ => False, ⟨fun pins s σ H Q I q => ?_⟩, fun σ H Q ρ ι s en r h => ?_⟩
    · refine attr_of hb (thn (p1.run pins s σ H _ I q) fun u s1 hh => ?_)
      obtain ⟨_, _, _, _, z⟩ := hh
      exact z.elim
    · refine q1 σ H _ ρ ι s en r (PoE.step h fun d s1 ι1 H1 v e1 x1 r1 d1 h1 => ?_)
      split at h1
      · rename_i k' c fs
        split at h1
        · rename_i hk
          obtain ⟨rfl, hc⟩ := hk
          cases d1 with
          | exn he hcl hd ha rf =>
            cases he
            exact hA (hcs c hc _ hcl)
          | old he => exact absurd rfl (he _ rfl)
        · exact False.elim h1
      · exact False.elim h1
/-- isinstance of the exception that the suite holds -/
theorem call_isX {dd : Addr} {b : Bool} {c : V} {cv : Value} (hn : PySem.W.specialIn X.K (.builtin "object.__class__") "__get__" = some (some (.builtin "getset_descriptor.__get__"))) (ht : PySem.W.takesIn X.K (.builtin "object.__class__") = some true) (hc : XIs X.K A)
    (hz : Zc (.ref A) (some dd) oe) (hf : ∃ vs, oe.data = .fields vs) (hk : PySem.W.kitOne X.K (.ref A) cv = some b) (hv : ∀ u, RelV c u → u = cv) :
    CallR (X.suite a ((a, oe) :: pn)) (.builtin "isinstance") (fun xs H Q => xs = [.ref a, c] ∧ (∃ vs, H dd = some (.xd vs)) ∧ Q (.bl b) H) := by
  intro pins s σ H xs us Q I r h
  obtain ⟨rfl, ⟨vs, hd⟩, q⟩ := h
  obtain ⟨u1, u2, rfl, r1, r2⟩ := vals2 r
  cases (show u1 = Value.ref a from r1)
  cases hv _ r2
  obtain ⟨hget, _⟩ := I.pin (a, oe) (List.mem_append_left _ List.mem_cons_self)
  obtain ⟨ws, hw⟩ := hf
  have hx : ObjOk X.prog X.w H s.heap dd (.xd vs) := I.hok dd _ hd
  obtain ⟨mA, hns, _⟩ := hx
  obtain ⟨od, ho, _⟩ := lookIn_ns hns
  have J : PySem.W.InstAt s.heap a oe A (some od) := ⟨hget, hz.1, by unfold PySem.W.notCls; rw [hw] <;> rfl, by rw [hz.2]; exact ho⟩
  exact PySem.W.kia_one (PySem.W.kitx_exc hc.cl hc.ga hc.gg hc.su hc.ca hn ht hc.mr) I.kIn J hk (fun z => nomatch z) fun tk => ⟨.bl b, H, I.kept (t' := tk) fun _ _ z => z, rfl, q⟩
theorem se_xis (hg : Gl X "isinstance") (hm : X.mg "isinstance" = none) (hn : PySem.W.specialIn X.K (.builtin "object.__class__") "__get__" = some (some (.builtin "getset_descriptor.__get__"))) (ht : PySem.W.takesIn X.K (.builtin "object.__class__") = some true)
    {c : V} {cv : Value} (hcv : ∀ u, RelV c u → u = cv) (hpc : PE (X.suite a ((a, oe) :: pn)) (.Name x npos) (tC c))
    (hcs : ∀ C A' b, c0 C = some A' → tab C = some b → XIs X.K A' ∧ PySem.W.kitOne X.K (.ref A') cv = some b) (hz : Zc (.ref A) (some dd) oe) (hf : ∃ vs, oe.data = .fields vs) (he : SE (X.suite a ((a, oe) :: pn)) ⟨c0, some (k, a, dd, A)⟩ W e m)
    (hs : starEach (e :: [.Name x npos]) X.env = (false, eval e X.env) :: starEach [.Name x npos] X.env := by rfl) (hs2 : starEach (.Name x npos :: []) X.env = (false, eval (.Name x npos) X.env) :: starEach [] X.env := by rfl)
    (hpl : (backTo pos (starEach [.Name x npos] X.env)).any (·.1) = false := by rfl) : SE (X.suite a ((a, oe) :: pn)) ⟨c0, some (k, a, dd, A)⟩ W (.Call (.Name "isinstance" p) [e, .Name x npos] [] pos) (mXis k tab m) := by
  obtain ⟨t, p1, q1⟩ := he.ex
  by_cases hA : ∃ b, XIs X.K A ∧ PySem.W.kitOne X.K (.ref A) cv = some b
  · obtain ⟨b, hA, hk⟩ := hA
    refine ⟨_, pe_callB (call_isX hn ht hA hz hf hk hcv) hg hm boot_isinstance (pa_cons p1 (pa_cons hpc pa_nil hs2) hs) (by decide) (by decide) hs hpl, fun σ H Q ρ ι s en r h => ?_⟩
    refine q1 σ H _ ρ ι s en r (PoE.step h fun d s1 ι1 H1 v e1 x1 r1 d1 h1 => ?_)
    split at h1
    · rename_i k' c' fs
      split at h1
      · rename_i hk'
        subst hk'
        split at h1
        · rename_i b' hb'
          cases d1 with
          | exn he hcl hd ha rf =>
            cases he
            have := (hcs c' A b' hcl hb').2
            rw [hk] at this
            cases this
            exact ⟨rfl, ⟨_, hd⟩, h1 ι1 H1 _ (Ext.refl _ _) r1 (.bl _)⟩
          | old he => exact absurd rfl (he _ rfl)
        · exact False.elim h1
      · exact False.elim h1
    · exact False.elim h1
  · have none : CallR (X.suite a ((a, oe) :: pn)) (.builtin "isinstance") (fun _ _ _ => False) := fun _ _ _ _ _ _ _ _ _ z => z.elim
    refine ⟨_, pe_callB none hg hm boot_isinstance (pa_cons p1 (pa_cons hpc pa_nil hs2) hs) (by decide) (by decide) hs hpl, fun σ H Q ρ ι s en r h => ?_⟩
    refine q1 σ H _ ρ ι s en r (PoE.step h fun d s1 ι1 H1 v e1 x1 r1 d1 h1 => ?_)
    split at h1
    · rename_i k' c' fs
      split at h1
      · rename_i hk'
        subst hk'
        split at h1
        · rename_i b' hb'
          cases d1 with
          | exn he hcl hd ha rf =>
            cases he
            exact hA ⟨b', hcs c' A b' hcl hb'⟩
          | old he => exact absurd rfl (he _ rfl)
        · exact False.elim h1
      · exact False.elim h1
    · exact False.elim h1
end
end Pm
namespace Pm
open PySem PySem.Spec PyProof.Rows L2

/-! ### an exception that is made: B.__init__(self, ..), then its fields -/
def setsM (ρ : Rho) : List (Str × ME) → List (Str × D) → S → R (List (Str × D))
  | [], acc, s => .ok acc s
  | (f, m) :: r, acc, s => (m ρ s).bind fun d s1 => setsM ρ r ((f, d) :: acc) s1
def mXInit (n : Nat) (msg : ME) (sets : List (Str × ME)) (ds : List D) (s : S) : R (List (Str × D)) :=
  if ds.length = n then (msg (none :: ds.map some) s).bind fun _ s1 => setsM (none :: ds.map some) sets [] s1 else .bad
def sRaise (c : Str) (G : List D → S → R (List (Str × D))) (ms : MA) : MS := fun ρ s => match ms ρ s with
  | .ok ds s1 => (match G ds s1 with
    | .ok (f :: fs) s2 => .exc (.ins c (f :: fs)) ρ s2
    | _ => .bad)
  | .exc x s1 => .exc x ρ s1
  | .bad => .bad
/-- the exception at a as it stands: H0 is the heap ahead of it -/
def StX (K : PySem.W.Frag) (w : World) (cl : Cl) (ι0 : List Addr) (H0 : Hp) (a C : Addr) (ι : List Addr) (H : Hp) (acc : List (Str × D)) : Prop := Ext ι0 H0 ι H ∧ H0 a = none ∧ a ∉ ι ∧
  ((acc = [] ∧ H a = some (exo a C none)) ∨ ∃ d vs, H a = some (exo a C (some d)) ∧ H d = some (exd d vs) ∧ d ∉ ι ∧ H0 d = none ∧ d ≠ a ∧ RelFs K w cl ι H acc vs)
theorem exo_dat {a C : Addr} {d : Option Addr} : ¬ Dat (exo a C d) := id
theorem exd_dat {a : Addr} {vs : List (Str × V)} : ¬ Dat (exd a vs) := id
section
variable {X : Cx} {cl : Cl} {W : Wish}
/-- B.__init__(self, ..), B an own class that has none of its own -/
structure BInit (K : PySem.W.Frag) (B : Addr) : Prop where
  rd : PySem.W.readsIn K B (.type "type") = true
  ga : PySem.W.specialIn K (.ref B) "__getattribute__" = some (some (.builtin "type.__getattribute__"))
  at_ : PySem.W.findCls K (.ref B) (.type "type") "__init__" = some (.val (.builtin "ValueError.__init__"))
theorem pe_binit {B : Addr} {x : Str} {e : Expr} {es : List Expr} {ta : TA} {p1 p2 pos : Pos} {pl : Sem Bool} (T : BInit X.K B) (hg : Gl X x) (hm : X.mg x = some (.ref B)) (ha : PA X (e :: es) ta) (hdb : (x == ("__debug__" : Str)) = false := by decide)
    (hc : eval (.Call (.Attribute (.Name x p1) "__init__" p2) (e :: es) [] pos) X.env = (do
      let o ← eval (.Name x p1) X.env
      standAt p2.atName
      let (g, first) ← holding [o] (getMethod o "__init__" pl)
      callWith pos g first (backTo pos (starEach (e :: es) X.env)) (backToKw pos (keywordEach [] X.env))) := by rfl)
    (he : starEach (e :: es) X.env = (false, eval e X.env) :: starEach es X.env := by rfl) (hpl : (backTo pos (starEach es X.env)).any (·.1) = false := by rfl) :
    PE X (.Call (.Attribute (.Name x p1) "__init__" p2) (e :: es) [] pos) (tVeI X.K ta) := by
  refine ⟨fun pins s σ H Q I h => ?_⟩
  refine PySem.W.methodCall_KW (ld_glob I hg hm ?_ hdb) hc
  refine PySem.W.method_cls I.kIn T.ga (PySem.W.cls_value I.kIn T.rd T.at_ (by decide +kernel) ?_)
  have J := I.tok (s.toks + 1)
  refine PyProof.Rows.callWith_method1 (thn (ha.run pos pins _ σ H _ J h) ?_) he hpl
  rintro us s1 ⟨vs, H1, I1, r1, a, C, ws, rfl, hl, TC, ea, q⟩
  cases r1 with
  | cons ra rw' =>
    cases ra
    exact oinit_ok TC I1 ea (by rw [← Paired.length rw', sizeLine_eq]; omega) fun s' J' => ⟨.non, H1, J', rfl, q⟩
theorem RelS.ext0 {K : PySem.W.Frag} {w : World} {cl : Cl} {ι : List Addr} {H H' : Hp} {s : S} (r : RelS K w cl ι s H) (x : Ext0 ι H ι H') (e : ∀ a ∈ ι, H' a = H a) : RelS K w cl ι s H' := by
  refine ⟨r.len, r.nd, fun n o h => ?_⟩
  obtain ⟨a, ha, ro⟩ := r.at_ n o h
  have ea := e a (List.mem_of_getElem? ha)
  refine ⟨a, ha, ?_⟩
  cases o with
  | lst xs => obtain ⟨vs, hv, rv⟩ := ro; exact ⟨vs, ea.trans hv, RelDs.ext0 x rv⟩
  | ins c fs => obtain ⟨A, dx, vs, hc, hk, hv, rv⟩ := ro; exact ⟨A, dx, vs, hc, hk, ea.trans hv, RelFs.ext0 x rv⟩
  | dK kvs => obtain ⟨vs, hv, hk, rv⟩ := ro; exact ⟨vs, ea.trans hv, hk, RelDs.ext0 x rv⟩
theorem RelE.ext0 {K : PySem.W.Frag} {w : World} {cl : Cl} {ι : List Addr} {H H' : Hp} {ρ : Rho} {σ : L2.St} (r : RelE K w cl ι H ρ σ) (x : Ext0 ι H ι H') : RelE K w cl ι H' ρ σ :=
  ⟨r.len, fun i d h => let ⟨v, h1, h2⟩ := r.at_ i d h; ⟨v, h1, RelD.ext0 x h2⟩⟩
/-- the fields, one after the other -/
structure SIx (X : Cx) (cl : Cl) (C : Addr) (sts : List Stmt) (sets : List (Str × ME)) : Prop where
  ex : ∃ t, PSs X sts t ∧ ∀ Dn σ H ι0 H0 ρ ι s a acc, σ[0]? = some (some (.ref a)) → RelE X.K X.w cl ι H ρ σ → RelS X.K X.w cl ι s H → StX X.K X.w cl ι0 H0 a C ι H acc → acc.length + sets.length ≤ 900 →
    (match setsM ρ sets acc s with
      | .ok fs s' => ∀ ι' H', RelS X.K X.w cl ι' s' H' → StX X.K X.w cl ι0 H0 a C ι' H' fs → Dn.nx σ H'
      | _ => False) → t Dn σ H
theorem si_nil {C : Addr} : SIx X cl C [] [] := ⟨_, pss_nil, fun Dn σ H ι0 H0 ρ ι s a acc _ _ rs st _ h => h ι H rs st⟩
theorem FsLen {K : PySem.W.Frag} {w : World} {ι : List Addr} {H : Hp} {fs : List (Str × D)} {vs : List (Str × V)} (r : RelFs K w cl ι H fs vs) : vs.length = fs.length := (fs_len r).symm
theorem si_cons {C : Addr} {f : Str} {e : Expr} {m : ME} {sts : List Stmt} {sets : List (Str × ME)} {pos p' p0 : Pos} (T : OexC X.K C) (hN : X.N[0]? = some ("self" : Str)) (hv : Vis X.env.scope "self") (hno : PySem.W.findIn X.K (.ref C) f = some none) (he : SE X cl (fun _ _ _ _ => False) e m)
    (hr : SIx X cl C sts sets) (hs : swapsWith e (some (.Attribute (.Name "self" p0) f p')) pos.line X.env = pure false := by rfl) : SIx X cl C (.Assign [.Attribute (.Name "self" p0) f p'] e pos :: sts) ((f, m) :: sets) := by
  obtain ⟨t, p1, q1⟩ := he.ex
  obtain ⟨u, p2, q2⟩ := hr.ex
  refine ⟨_, pss_cons (ps_ost (pe_var hN hv) p1 hs) p2, fun Dn σ H ι0 H0 ρ ι s a acc h0 en rs st hl h => ?_⟩
  unfold setsM at h
  cases e1 : m ρ s with
  | bad => rw [e1] at h; exact False.elim h
  | exc x s1 => rw [e1] at h; exact False.elim h
  | ok d s1 =>
    rw [e1] at h
    simp only [R.bind] at h
    refine q1 σ H _ ρ ι s en rs ?_
    rw [e1]
    intro ι1 H1 y x1 r1 d1
    refine ⟨_, h0, a, C, rfl, T, hno, ?_⟩
    obtain ⟨xb, n0, na, st⟩ := st
    have xb1 := xb.trans x1
    simp only [List.length_cons] at hl
    have nx : ∀ {dx : Addr}, H1 dx = none → dx ∉ ι1 := fun hdx => r1.notin hdx
    rcases st with ⟨rfl, ea⟩ | ⟨dx, vs, ea, ed, nd, n0d, nda, rf⟩
    · obtain ⟨ea1, na1⟩ := x1.keep _ _ ea na
      refine .inl ⟨ea1, fun dx hdx hne => ?_⟩
      have hdx0 : H0 dx = none := xb1.dom dx hdx
      have z1 : Ext ι1 H1 ι1 (upd H1 dx (exd dx [(f, y)])) := Ext.new hdx
      have e2 : upd H1 dx (exd dx [(f, y)]) a = some (exo a C none) := by rw [upd_ne (Ne.symm hne)]; exact ea1
      have z2 : Ext0 ι1 (upd H1 dx (exd dx [(f, y)])) ι1 (upd (upd H1 dx (exd dx [(f, y)])) a (exo a C (some dx))) := Ext0.made e2 exo_dat
      have r2 := r1.laid (o := exd dx [(f, y)]) hdx
      have r3 := r2.ext0 z2 fun b hb => upd_ne (fun z => na1 (z ▸ hb))
      refine q2 Dn σ _ ι0 H0 ρ ι1 s1 a ((f, d) :: []) h0 (((en.ext x1).ext z1).ext0 z2) r3 ⟨(xb1.up hdx0).up n0, n0, na1, .inr ⟨dx, [(f, y)], ?_, upd_ne hne |>.trans upd_same, nx hdx, hdx0, hne, .cons (RelD.ext0 z2 (d1.ext z1)) .nil⟩⟩ (by simp only [List.length_cons, List.length_nil] at hl ⊢; omega) h
      exact upd_same
    · obtain ⟨ea1, na1⟩ := x1.keep _ _ ea na
      obtain ⟨ed1, nd1⟩ := x1.keep _ _ ed nd
      have hlen := FsLen rf
      refine .inr ⟨dx, vs, ea1, ed1, by omega, ?_⟩
      have z2 : Ext0 ι1 H1 ι1 (upd H1 dx (exd dx ((f, y) :: vs))) := Ext0.made ed1 exd_dat
      have r3 := r1.ext0 z2 fun b hb => upd_ne (fun z => nd1 (z ▸ hb))
      have hne : a ≠ dx := Ne.symm nda
      refine q2 Dn σ _ ι0 H0 ρ ι1 s1 a ((f, d) :: acc) h0 ((en.ext x1).ext0 z2) r3 ⟨xb1.up n0d, n0, na1, .inr ⟨dx, (f, y) :: vs, ?_, upd_same, nd1, n0d, nda, .cons (RelD.ext0 z2 d1) (RelFs.ext0 z2 (rf.ext x1))⟩⟩ (by simp only [List.length_cons]; omega) h
      rw [upd_ne hne]
      exact ea1
/-- an __init__'s body -/
structure SXb (X : Cx) (cl : Cl) (C : Addr) (sts : List Stmt) (msg : ME) (sets : List (Str × ME)) : Prop where
  ex : ∃ t, PSs X sts t ∧ ∀ Dn σ H0 ρ ι s a, σ[0]? = some (some (.ref a)) → H0 a = none → RelE X.K X.w cl ι H0 ρ σ → RelS X.K X.w cl ι s H0 →
    (match (msg ρ s).bind fun _ s1 => setsM ρ sets [] s1 with
      | .ok fs s' => ∀ ι' H', RelS X.K X.w cl ι' s' H' → StX X.K X.w cl ι H0 a C ι' H' fs → Dn.nx σ H'
      | _ => False) → t Dn σ (upd H0 a (exo a C none))
theorem sx_body {B C : Addr} {x : Str} {e : Expr} {msg : ME} {rest : List Stmt} {sets : List (Str × ME)} {p1 p2 p3 pos pos' : Pos} {pl : Sem Bool} (T : OexC X.K C) (TB : BInit X.K B) (hg : Gl X x) (hm : X.mg x = some (.ref B)) (hN : X.N[0]? = some ("self" : Str)) (hv : Vis X.env.scope "self") (he : SE X cl (fun _ _ _ _ => False) e msg) (hr : SIx X cl C rest sets) (hz : sets.length ≤ 900)
    (hdb : (x == ("__debug__" : Str)) = false := by decide)
    (hc : eval (.Call (.Attribute (.Name x p1) "__init__" p2) [.Name "self" p3, e] [] pos) X.env = (do
      let o ← eval (.Name x p1) X.env
      standAt p2.atName
      let (g, first) ← holding [o] (getMethod o "__init__" pl)
      callWith pos g first (backTo pos (starEach [.Name "self" p3, e] X.env)) (backToKw pos (keywordEach [] X.env))) := by rfl)
    (hs1 : starEach [.Name "self" p3, e] X.env = (false, eval (.Name "self" p3) X.env) :: starEach [e] X.env := by rfl) (hs2 : starEach [e] X.env = (false, eval e X.env) :: starEach [] X.env := by rfl) (hpl : (backTo pos (starEach [e] X.env)).any (·.1) = false := by rfl) :
    SXb X cl C (.Expr (.Call (.Attribute (.Name x p1) "__init__" p2) [.Name "self" p3, e] [] pos) pos' :: rest) msg sets := by
  obtain ⟨t, p4, q4⟩ := he.ex
  obtain ⟨u, p5, q5⟩ := hr.ex
  refine ⟨_, pss_cons (ps_expr (pe_binit TB hg hm (pa_cons (pe_var hN hv) (pa_cons p4 pa_nil hs2) hs1) hdb hc hs1 hpl)) p5, fun Dn σ H0 ρ ι s a h0 n0 en rs h => ?_⟩
  have x0 : Ext ι H0 ι (upd H0 a (exo a C none)) := Ext.new n0
  have na : a ∉ ι := rs.notin n0
  refine ⟨_, h0, ?_⟩
  cases e1 : msg ρ s with
  | bad => rw [e1] at h; exact False.elim h
  | exc x s1 => rw [e1] at h; exact False.elim h
  | ok d s1 =>
    rw [e1] at h
    simp only [R.bind] at h
    refine q4 σ _ _ ρ ι s (en.ext x0) (rs.laid n0) ?_
    rw [e1]
    intro ι1 H1 y x1 r1 d1
    obtain ⟨ea, na1⟩ := x1.keep _ _ upd_same na
    refine ⟨a, C, [y], rfl, by simp, T, ea, ?_⟩
    exact q5 Dn σ H1 ι H0 ρ ι1 s1 a [] h0 ((en.ext x0).ext x1) r1 ⟨x0.trans x1, n0, na1, .inl ⟨rfl, ea⟩⟩ (by simpa using hz) h
/-- what an __init__ promises -/
def spX (K : PySem.W.Frag) (w : World) (cl : Cl) (C : Addr) (n : Nat) (F : List D → S → R (List (Str × D))) : Sp := fun vs H Q E => vs.length = n + 1 ∧ ∃ a H0 ι s ds ws, vs = .ref a :: ws ∧ H = upd H0 a (exo a C none) ∧ H0 a = none ∧ RelS K w cl ι s H0 ∧ RelDs K w cl ι H0 ds ws ∧
  (match F ds s with
    | .ok fs s' => ∀ ι' H', RelS K w cl ι' s' H' → StX K w cl ι H0 a C ι' H' fs → Q .non H'
    | _ => False)
theorem fnx_ok {P : Program} {w : World} {K : PySem.W.Frag} {mg : Str → Option Value} {base : Heap} {C : Addr} {x qual : Str} {st : Stmt} {f : Addr} {fd : FuncData} {ps : List Str} {k : Nat} {msg : ME} {sets : List (Str × ME)} (F : Fun K x qual st f fd) (Sc : FnScope ("self" :: ps) ("self" :: ps) (defScope st))
    (hb : ∀ (cdv : Value) (A : Around) (outer : List Env) (s : Shared) (H : Hp) (E : XK), Room k (A.deeper (envOfC qual (defScope st) s.heap.objs.size f cdv)) →
      SXb (cxOf (L2.CX P w) P w K mg base ("self" :: ps) qual (defScope st) f cdv A outer s H E) cl C (defBody st) msg sets) :
    FnOk P w K mg base (L2.CX P w) (k + 1) f fd ("self" :: ps) (spX K w cl C ps.length (mXInit ps.length msg sets)) := by
  refine F.okX Sc (fun vs H Q E h => h.1) fun cdv A outer s H vs Q E hr ⟨hl, a, H0, ι, s0, ds, ws, hv, hH, n0, rs, rd, h⟩ => ?_
  subst hv
  subst hH
  obtain ⟨t, p, q⟩ := (hb cdv A outer s _ E hr).ex
  refine ⟨t, p, ?_⟩
  have hwl : ws.length = ps.length := by simpa using hl
  have hdl : ds.length = ps.length := by rw [rd.length]; exact hwl
  unfold mXInit at h
  rw [if_pos hdl] at h
  have e0 : (L2.start ("self" :: ps) (V.ref a :: ws)) = some (.ref a) :: L2.start ps ws := by
    unfold L2.start
    simp
  rw [e0]
  have re := start_rel (K := K) (w := w) (cl := cl) (H := H0) (N := ps) (tot := ps.length) rfl hdl.symm rd
  rw [Nat.sub_self] at re
  simp only [List.replicate_zero, List.append_nil] at re
  refine q _ _ H0 _ ι s0 a rfl n0 ⟨by simp [re.len], fun i d hi => ?_⟩ rs h
  cases i with
  | zero => cases hi
  | succ i => exact re.at_ i d hi
theorem passes_none {X : Cx} : Passes (L2.CX X.prog X.w) X (fun _ _ _ => False) := fun _ _ _ _ _ _ _ h => by
  obtain ⟨_, _, _, _, _, _, _, _, _, _, _, _, z⟩ := h
  exact z.elim
/-- raise x(..) -/
theorem ss_raise {C fI : Addr} {x : Str} {k n : Nat} {fd : FuncData} {ps : List Str} {G : List D → S → R (List (Str × D))} {e : Expr} {es : List Expr} {ms : MA} {p pos pos' : Pos} (hcl : cl x = some C) (T : OexC X.K C) (iC : PySem.W.findIn X.K (.ref C) "__init__" = some (some (.ref fI))) (tI : PySem.W.typeIn X.K (.ref fI) = some (.type "function"))
    (F1 : FnOk X.prog X.w X.K X.mg X.base (L2.CX X.prog X.w) k fI fd ps (spX X.K X.w cl C n G)) (hG : ∀ ds s, ds.length ≠ n → G ds s = .bad) (hn : n ≤ 1000) (hr : Room (k + 1) X.A) (hb : Binds X.K fd ps []) (hg : Gl X x) (hm : X.mg x = some (.ref C)) (hcalm : X.calm = true) (tk : L2.Takes X W) (ha : SA X cl W (e :: es) ms)
    (hdb : (x == ("__debug__" : Str)) = false := by decide) (he : starEach (e :: es) X.env = (false, eval e X.env) :: starEach es X.env := by rfl) (hpl : (backTo pos (starEach es X.env)).any (·.1) = false := by rfl) :
    SS X cl W (.Raise (some (.Call (.Name x p) (e :: es) [] pos)) none pos') (sRaise x G ms) := by
  obtain ⟨t, p1, q1⟩ := ha.ex
  refine ⟨_, ps_raise hcalm tk (pmk_oex T iC tI F1 hr hb .nil passes_none hg hm p1 hdb he hpl), fun Dn σ H ρ ι s en rs h => ?_⟩
  unfold sRaise at h
  refine q1 σ H _ ρ ι s en rs ?_
  cases e1 : ms ρ s with
  | bad => rw [e1] at h; exact False.elim h
  | exc y s1 => rw [e1] at h; exact fun ι1 H1 c d x1 r1 rx => h ι1 H1 σ c d x1 r1 (en.ext x1) rx
  | ok ds s1 =>
    rw [e1] at h
    simp only at h
    intro ι1 H1 vs x1 r1 d1
    have hdn : ds.length = n := by
      by_cases hl : ds.length = n
      · exact hl
      · rw [hG ds s1 hl] at h; exact False.elim h
    have hvn : vs.length = n := by rw [← d1.length]; exact hdn
    refine ⟨by omega, fun a na => ⟨by simp [hvn], a, H1, ι1, s1, ds, vs ++ [], rfl, rfl, na, r1, by simpa using d1, ?_⟩⟩
    cases e2 : G ds s1 with
    | bad => rw [e2] at h; exact False.elim h
    | exc y s2 => rw [e2] at h; exact False.elim h
    | ok fs s2 =>
      rw [e2] at h
      intro ι2 H2 r2 st
      obtain ⟨xb, _, na2, st⟩ := st
      cases fs with
      | nil => exact False.elim h
      | cons f fs =>
      rcases st with ⟨z, _⟩ | ⟨d, us, ea, ed, nd, n1d, nda, rf⟩
      · cases z
      refine ⟨rfl, d, us, ea, ed, n1d, ?_⟩
      have hne : ∀ {b : Addr}, b ≠ d → b ≠ a → (upd (L2.del H2 a) d (.xd us)) b = H2 b := fun h1 h2 => by rw [upd_ne h1, del_ne h2]
      have z0 : Ext0 ι2 H2 ι2 (upd (L2.del H2 a) d (.xd us)) := ⟨⟨[], (List.append_nil _).symm⟩, fun b o e m dt => ⟨by
        rw [hne (fun z => by rw [z, ed] at e; cases e; exact exd_dat dt) (fun z => by rw [z, ea] at e; cases e; exact exo_dat dt)]
        exact e, m⟩⟩
      have z1 : Ext ι1 H1 ι2 (upd (L2.del H2 a) d (.xd us)) := ⟨xb.pre, fun b o e m => ⟨by
        rw [hne (ne_of_none e n1d) (ne_of_none e na)]
        exact (xb.keep b o e m).1, (xb.keep b o e m).2⟩, fun b e => by
        by_cases h1 : b = d
        · rw [h1]; exact n1d
        · by_cases h2 : b = a
          · rw [h2]; exact na
          · rw [hne h1 h2] at e; exact xb.dom b e⟩
      have r3 := r2.ext0 z0 fun b hb => hne (fun z => nd (z ▸ hb)) (fun z => na2 (z ▸ hb))
      exact h ι2 _ σ _ _ (x1.trans z1) r3 (en.ext (x1.trans z1)) ⟨x, f :: fs, C, rfl, hcl, rfl, d, us, rfl, upd_same, RelFs.ext0 z0 rf⟩
end
end Pm
namespace Pm
open PySem PySem.Spec PyProof.Rows L2

/-! ### f-strings of texts and ints -/
def fmtC : List D → Option Nat
  | [] => some 0
  | .str y :: r => (fmtC r).map (y.length + ·)
  | .int i :: r => if i.natAbs.log2 < 1920 then (fmtC r).map (1921 + ·) else none
  | _ => none
def fmtT (acc : Str) : List D → Str
  | [] => acc
  | .str y :: r => fmtT (acc ++ y) r
  | .int i :: r => fmtT (acc ++ Str.ofString (toString i)) r
  | _ => acc
def fmtOk (ds : List D) : Bool := match fmtC ds with
  | some n => decide (n ≤ 16000000)
  | none => false
def mFs (ms : MA) : ME := fun ρ s => match ms ρ s with
  | .ok ds s1 => if fmtOk ds = true then .ok (.str (fmtT Str.empty ds)) s1 else .bad
  | _ => .bad
section
variable {X : Cx} {cl : Cl} {W : Wish}
def PoJ (K : PySem.W.Frag) (w : World) (cl : Cl) (ι : List Addr) (H : Hp) (acc : Str) (Q : Str → Hp → Prop) : R (List D) → Prop
  | .ok ds s => (∃ n, fmtC ds = some n ∧ acc.length + n ≤ 16000000) ∧ ∀ ι' H', Ext ι H ι' H' → RelS K w cl ι' s H' → Q (fmtT acc ds) H'
  | _ => False
structure SJ (X : Cx) (cl : Cl) (W : Wish) (es : List Expr) (ms : MA) : Prop where
  ex : ∃ ts, PJ X es ts ∧ ∀ acc σ H Q ρ ι s, RelE X.K X.w cl ι H ρ σ → RelS X.K X.w cl ι s H → PoJ X.K X.w cl ι H acc Q (ms ρ s) → tJs ts acc σ H Q
theorem sj_nil : SJ X cl W [] aNil := ⟨_, .nil, fun acc σ H Q ρ ι s en rs h => h.2 ι H (Ext.refl _ _) rs⟩
theorem str_app_len (a b : Str) : (a ++ b).length = a.length + b.length := by
  show (a.cps ++ b.cps).size = _
  exact Array.size_append
theorem ofStr_len (x : String) : (Str.ofString x).length = x.length := by rw [Str.ofString_eq_toList]; simp [Str.length, String.length_toList]
theorem int_len {i : Int} (h : i.natAbs.log2 < 1920) : (Str.ofString (toString i)).length ≤ 1921 := by
  have := PySem.int_text_length_le (a := i) (k := 1920) (by decide) h
  rw [ofStr_len]
  exact this
theorem sj_str {x : Str} {j : Nat} {pos : Pos} {es : List Expr} {ms : MA} (hr : SJ X cl W es ms) : SJ X cl W (.Constant (.str x) j pos :: es) (aCons (mC (.str x)) ms) := by
  obtain ⟨ts, p2, q2⟩ := hr.ex
  refine ⟨_, .cons pe_str p2, fun acc σ H Q ρ ι s en rs h => ?_⟩
  unfold aCons mC at h
  simp only [R.bind] at h
  cases e2 : ms ρ s with
  | bad => rw [e2] at h; exact False.elim h
  | exc x s2 => rw [e2] at h; exact False.elim h
  | ok ds s2 =>
    rw [e2] at h
    obtain ⟨⟨n, hn, hl⟩, k⟩ := h
    obtain ⟨n', hn', rfl⟩ := Option.map_eq_some_iff.mp (show (fmtC ds).map (x.length + ·) = some n from hn)
    refine ⟨x, rfl, by rw [str_app_len, sizeLine_eq]; omega, q2 (acc ++ x) σ H Q ρ ι s en rs ?_⟩
    rw [e2]
    exact ⟨⟨n', hn', by rw [str_app_len]; omega⟩, k⟩
theorem sj_fmt {e : Expr} {m : ME} {pos : Pos} {es : List Expr} {ms : MA} (he : SE X cl (fun _ _ _ _ => False) e m) (hr : SJ X cl W es ms) : SJ X cl W (.FormattedValue e (-1) none pos :: es) (aCons m ms) := by
  obtain ⟨t, p1, q1⟩ := he.ex
  obtain ⟨ts, p2, q2⟩ := hr.ex
  refine ⟨_, .cons (pe_fmt p1) p2, fun acc σ H Q ρ ι s en rs h => ?_⟩
  unfold aCons at h
  refine q1 σ H _ ρ ι s en rs ?_
  cases e1 : m ρ s with
  | bad => rw [e1] at h; exact False.elim h
  | exc x s1 => rw [e1] at h; exact False.elim h
  | ok d s1 =>
    rw [e1] at h
    simp only [R.bind] at h
    intro ι1 H1 v x1 r1 d1
    cases e2 : ms ρ s1 with
    | bad => rw [e2] at h; exact False.elim h
    | exc x s2 => rw [e2] at h; exact False.elim h
    | ok ds s2 =>
      rw [e2] at h
      obtain ⟨⟨n, hn, hl⟩, k⟩ := h
      cases d with
      | str y =>
        cases d1
        obtain ⟨n', hn', rfl⟩ := Option.map_eq_some_iff.mp (show (fmtC ds).map (y.length + ·) = some n from hn)
        refine .inl ⟨y, rfl, by rw [sizeLine_eq]; omega, y, rfl, by rw [str_app_len, sizeLine_eq]; omega, q2 (acc ++ y) σ H1 Q ρ ι1 s1 (en.ext x1) r1 ?_⟩
        rw [e2]
        exact ⟨⟨n', hn', by rw [str_app_len]; omega⟩, fun ι' H' x' r' => k ι' H' (x1.trans x') r'⟩
      | int i =>
        cases d1
        by_cases hi : i.natAbs.log2 < 1920
        · obtain ⟨n', hn', rfl⟩ := Option.map_eq_some_iff.mp (show (fmtC ds).map (1921 + ·) = some n from (if_pos hi).symm.trans hn)
          have hz := int_len hi
          refine .inr ⟨i, rfl, hi, _, rfl, by rw [str_app_len, sizeLine_eq]; omega, q2 _ σ H1 Q ρ ι1 s1 (en.ext x1) r1 ?_⟩
          rw [e2]
          exact ⟨⟨n', hn', by rw [str_app_len]; omega⟩, fun ι' H' x' r' => k ι' H' (x1.trans x') r'⟩
        · exact nomatch (show none = some n from (if_neg hi).symm.trans hn)
      | _ => cases hn
theorem se_fs {v1 v2 : Expr} {rest : List Expr} {ms : MA} {pos : Pos} (h : SJ X cl W (v1 :: v2 :: rest) ms) : SE X cl W (.JoinedStr (v1 :: v2 :: rest) pos) (mFs ms) := by
  obtain ⟨ts, p, q⟩ := h.ex
  refine ⟨_, pe_joined p, fun σ H Q ρ ι s en rs h => ?_⟩
  unfold mFs at h
  refine q _ σ H _ ρ ι s en rs ?_
  cases e1 : ms ρ s with
  | bad => rw [e1] at h; exact False.elim h
  | exc x s1 => rw [e1] at h; exact False.elim h
  | ok ds s1 =>
    rw [e1] at h
    simp only at h
    by_cases hk : fmtOk ds = true
    · rw [if_pos hk] at h
      unfold fmtOk at hk
      cases hf : fmtC ds with
      | none => rw [hf] at hk; cases hk
      | some n =>
        rw [hf] at hk
        exact ⟨⟨n, hf, by have := of_decide_eq_true hk; simpa [Str.empty, Str.length] using this⟩, fun ι' H' x' r' => h ι' H' _ x' r' (.str _)⟩
    · rw [if_neg hk] at h; exact False.elim h
/-- f'{e}' -/
theorem se_fs1 {e : Expr} {m : ME} {p pos : Pos} (he : SE X cl (fun _ _ _ _ => False) e m) : SE X cl W (.JoinedStr [.FormattedValue e (-1) none p] pos) (mFs (aCons m aNil)) := by
  obtain ⟨t, p1, q1⟩ := he.ex
  refine ⟨_, pe_joined1 (pe_fmt p1), fun σ H Q ρ ι s en rs h => ?_⟩
  unfold mFs aCons at h
  refine q1 σ H _ ρ ι s en rs ?_
  cases e1 : m ρ s with
  | bad => rw [e1] at h; exact False.elim h
  | exc x s1 => rw [e1] at h; exact False.elim h
  | ok d s1 =>
    rw [e1] at h
    simp only [R.bind, aNil] at h
    intro ι1 H1 v x1 r1 d1
    by_cases hk : fmtOk [d] = true
    · rw [if_pos hk] at h
      unfold fmtOk at hk
      cases d with
      | str y =>
        cases d1
        have hl : y.length ≤ 16000000 := by simpa [fmtC] using hk
        refine .inl ⟨y, rfl, by rw [sizeLine_eq]; omega, ?_⟩
        have e3 : fmtT Str.empty [.str y] = y := by
          show Str.empty ++ y = y
          cases y
          show Str.mk _ = _
          simp [Str.empty]
        rw [e3] at h
        exact h ι1 H1 _ x1 r1 (.str _)
      | int i =>
        cases d1
        by_cases hi : i.natAbs.log2 < 1920
        · have e3 : fmtT Str.empty [.int i] = Str.ofString (toString i) := by
            show Str.empty ++ _ = _
            generalize Str.ofString (toString i) = y
            cases y
            show Str.mk _ = _
            simp [Str.empty]
          rw [e3] at h
          exact .inr ⟨i, rfl, hi, h ι1 H1 _ x1 r1 (.str _)⟩
        · simp [fmtC, hi] at hk
      | _ => simp [fmtC] at hk
    · rw [if_neg hk] at h; exact False.elim h
end

/-! ### facts of classes -/
section
variable {K : PySem.W.Frag} {C C' : Addr} {b : Bool}
theorem cls_some (h : PySem.W.hasDictIn K C = true) : (PySem.W.clsIn K C).isSome = true := by
  obtain ⟨cd, hc, _⟩ := PySem.W.any_some h
  rw [hc] <;> rfl
theorem kit_self {t : Value} : PySem.W.kitOne K t t = some true := if_pos (beq_self_eq_true t)
theorem kit_ref (ne : (Value.ref C == Value.ref C') = false) (hd : PySem.W.hasDictIn K C' = true) (ty : PySem.W.typeIn K (.ref C') = some (.type "type")) (sb : PySem.W.subIn K (.ref C) (.ref C') = some b) : PySem.W.kitOne K (.ref C) (.ref C') = some b := by
  unfold PySem.W.kitOne
  rw [ne, if_neg (by decide)]
  have e : ((PySem.W.clsIn K C').isSome && PySem.W.typeIn K (.ref C') == some (.type "type")) = true := by rw [cls_some hd, ty] <;> rfl
  exact (if_pos e).trans sb
theorem kit_typ {T : String} (hm : PySem.W.kitMeta T = true) (sb : PySem.W.subIn K (.ref C) (.type T) = some b) : PySem.W.kitOne K (.ref C) (.type T) = some b := by
  unfold PySem.W.kitOne
  have ne : (Value.ref C == Value.type T) = false := beq_eq_false_iff_ne.mpr fun z => by cases z
  rw [ne, if_neg (by decide)]
  exact (if_pos hm).trans sb
end
/-! ### tables of classes -/
def tabF (l : List (Str × Bool)) : Str → Option Bool := fun c => l.lookup c
section
variable {K : PySem.W.Frag} {cl : Cl} {c : Value} {x f : Str} {A : Addr} {b : Bool} {l : List (Str × Bool)}
theorem hdok_nil : HdOk K cl c (tabF []) := fun C A b _ h => nomatch (show none = some b from h)
theorem hdok_cons (hx : cl x = some A) (h : PySem.W.exmOne K (.ref A) c = some b) (r : HdOk K cl c (tabF l)) : HdOk K cl c (tabF ((x, b) :: l)) := fun C A' b' hC hb => by
  unfold tabF at hb
  rw [List.lookup_cons] at hb
  split at hb
  · rename_i he
    cases eq_of_beq he
    rw [hx] at hC
    cases hC
    cases hb
    exact h
  · exact r C A' b' hC hb
theorem xcs_nil {c0 : Str → Option Addr} : ∀ C ∈ ([] : List Str), ∀ A', c0 C = some A' → XfC K A' ∧ PySem.W.findIn K (.ref A') f = some none := fun _ h => nomatch h
theorem xcs_cons {c0 : Str → Option Addr} {cs : List Str} (hx : c0 x = some A) (h1 : XfC K A) (h2 : PySem.W.findIn K (.ref A) f = some none) (r : ∀ C ∈ cs, ∀ A', c0 C = some A' → XfC K A' ∧ PySem.W.findIn K (.ref A') f = some none) :
    ∀ C ∈ x :: cs, ∀ A', c0 C = some A' → XfC K A' ∧ PySem.W.findIn K (.ref A') f = some none := fun C hC A' hA => by
  rcases List.mem_cons.mp hC with rfl | hC
  · rw [hx] at hA; cases hA; exact ⟨h1, h2⟩
  · exact r C hC A' hA
theorem xis_nil {c0 : Str → Option Addr} : ∀ C A' b, c0 C = some A' → tabF [] C = some b → XIs K A' ∧ PySem.W.kitOne K (.ref A') c = some b := fun C A b _ h => nomatch (show none = some b from h)
theorem xis_cons {c0 : Str → Option Addr} (hx : c0 x = some A) (h1 : XIs K A) (h2 : PySem.W.kitOne K (.ref A) c = some b) (r : ∀ C A' b, c0 C = some A' → tabF l C = some b → XIs K A' ∧ PySem.W.kitOne K (.ref A') c = some b) :
    ∀ C A' b', c0 C = some A' → tabF ((x, b) :: l) C = some b' → XIs K A' ∧ PySem.W.kitOne K (.ref A') c = some b' := fun C A' b' hC hb => by
  unfold tabF at hb
  rw [List.lookup_cons] at hb
  split at hb
  · rename_i he
    cases eq_of_beq he
    rw [hx] at hC
    cases hC
    cases hb
    exact ⟨h1, h2⟩
  · exact r C A' b' hC hb
theorem mXInit_arity {n : Nat} {msg : ME} {sets : List (Str × ME)} : ∀ ds s, ds.length ≠ n → mXInit n msg sets ds s = .bad := fun ds s h => if_neg h
end
end Pm
namespace Pm
open PySem PySem.Spec PyProof.Rows L2
theorem room_su {X : Cx} {a : Addr} {pn : List (Addr × Obj)} (h : X.A.units + 64 < cLine) : (X.suite a pn).A.units + 64 < cLine := h
theorem room_su1 {X : Cx} {a : Addr} {pn : List (Addr × Obj)} (h : X.A.units + 65 < cLine) : (X.suite a pn).A.units + 65 < cLine := h
end Pm
namespace Pm.Z
open PySem PySem.Spec PyProof.Rows L2

/-! ### what a term gives: a calculus over M -/
def wp {α : Type} (r : R α) (Q : α → S → Prop) (E : D → S → Prop := fun _ _ => False) : Prop := match r with
  | .ok a s => Q a s
  | .exc x s => E x s
  | .bad => False
def wS (r : RS) (Q : C → S → Prop) (E : D → Rho → S → Prop := fun _ _ _ => False) : Prop := match r with
  | .ok c s => Q c s
  | .exc x ρ s => E x ρ s
  | .bad => False
def rtQ (Q : D → S → Prop) : C → S → Prop
  | .rt d, s => Q d s
  | .nx _, s => Q .non s
  | _, _ => False
def seqQ (b : MS) (Q : C → S → Prop) (E : D → Rho → S → Prop := fun _ _ _ => False) : C → S → Prop
  | .nx ρ, s => wS (b ρ s) Q E
  | c, s => Q c s
section
variable {α β : Type} {Q : α → S → Prop} {E : D → S → Prop}
theorem wp_ok {a : α} {s : S} : wp (.ok a s) Q E = Q a s := rfl
theorem wp_bad : wp (.bad : R α) Q E = False := rfl
theorem wp_bind {r : R β} {f : β → S → R α} : wp (r.bind f) Q E = wp r (fun b s => wp (f b s) Q E) E := by cases r <;> rfl
theorem wp_mono {Q' : α → S → Prop} {r : R α} (h : wp r Q E) (k : ∀ a s, Q a s → Q' a s) : wp r Q' E := by
  cases r with
  | ok a s => exact k a s h
  | exc x s => exact h
  | bad => exact h.elim
theorem wp_monoE {E' : D → S → Prop} {r : R α} (h : wp r Q E) (k : ∀ x s, E x s → E' x s) : wp r Q E' := by
  cases r with
  | ok a s => exact h
  | exc x s => exact k x s h
  | bad => exact h.elim
theorem wp_ite {p : Prop} [Decidable p] {a b : R α} : wp (if p then a else b) Q E = if p then wp a Q E else wp b Q E := by split <;> rfl
theorem wp_ex {r : R α} (h : wp r Q) : ∃ a s, r = .ok a s ∧ Q a s := by
  cases r with
  | ok a s => exact ⟨a, s, rfl, h⟩
  | exc x s => exact h.elim
  | bad => exact h.elim
end
section
variable {Q : C → S → Prop} {E : D → Rho → S → Prop} {ρ : Rho} {s : S}
theorem wS_ok {c : C} : wS (.ok c s) Q E = Q c s := rfl
theorem wS_bad : wS .bad Q E = False := rfl
theorem wS_mono {Q' : C → S → Prop} {r : RS} (h : wS r Q E) (k : ∀ a s, Q a s → Q' a s) : wS r Q' E := by
  cases r with
  | ok a s => exact k a s h
  | exc x ρ s => exact h
  | bad => exact h.elim
theorem wS_monoE {E' : D → Rho → S → Prop} {r : RS} (h : wS r Q E) (k : ∀ x ρ s, E x ρ s → E' x ρ s) : wS r Q E' := by
  cases r with
  | ok a s => exact h
  | exc x ρ s => exact k x ρ s h
  | bad => exact h.elim
theorem wS_ite {p : Prop} [Decidable p] {a b : RS} : wS (if p then a else b) Q E = if p then wS a Q E else wS b Q E := by split <;> rfl
theorem wS_st {α : Type} {r : R α} {f : α → S → RS} : wS (r.st ρ f) Q E = wp r (fun a s => wS (f a s) Q E) (fun x s => E x ρ s) := by cases r <;> rfl
theorem wS_cons {a b : MS} : wS (ssCons a b ρ s) Q E = wS (a ρ s) (seqQ b Q E) E := by
  unfold ssCons RS.andThen
  cases a ρ s with
  | ok c s1 => cases c <;> rfl
  | exc x ρ s1 => rfl
  | bad => rfl
theorem wS_nil : wS (ssNil ρ s) Q E = Q (.nx ρ) s := rfl
theorem wS_pass : wS (sPass ρ s) Q E = Q (.nx ρ) s := rfl
theorem wS_break : wS (sBreak ρ s) Q E = Q (.bk ρ) s := rfl
theorem wS_cont : wS (sCont ρ s) Q E = Q (.ct ρ) s := rfl
theorem wS_never : wS (sNever ρ s) Q E = False := rfl
theorem wS_set {i : Nat} {m : ME} : wS (sSet i m ρ s) Q E = wp (m ρ s) (fun d s1 => Q (.nx (ρ.set i (some d))) s1) (fun x s => E x ρ s) := wS_st
theorem wS_expr {m : ME} : wS (sExpr m ρ s) Q E = wp (m ρ s) (fun _ s1 => Q (.nx ρ) s1) (fun x s => E x ρ s) := wS_st
theorem wS_ret {m : ME} : wS (sRet m ρ s) Q E = wp (m ρ s) (fun d s1 => Q (.rt d) s1) (fun x s => E x ρ s) := wS_st
theorem wS_retN : wS (sRetN ρ s) Q E = Q (.rt .non) s := rfl
theorem wS_if {c : MT} {a b : MS} : wS (sIf c a b ρ s) Q E = wp (c ρ s) (fun k s1 => if k = true then wS (a ρ s1) Q E else wS (b ρ s1) Q E) (fun x s => E x ρ s) := by
  unfold sIf
  rw [wS_st]
  congr 1
  funext k s1
  exact wS_ite
theorem wS_asg {m : ME} {g : MG} : wS (sAsg m g ρ s) Q E = wp (m ρ s) (fun d s1 => wp (g d ρ s1) (fun ρ1 s2 => Q (.nx ρ1) s2)) (fun x s => E x ρ s) := by
  unfold sAsg
  rw [wS_st]
  congr 1
  funext d s1
  cases g d ρ s1 <;> rfl
theorem wS_aug {i : Nat} {f : D → D → S → R D} {m : ME} : wS (sAug i f m ρ s) Q E = wp (mVar i ρ s) (fun x s0 => wp (m ρ s0) (fun y s1 => wp (f x y s1) (fun z s2 => Q (.nx (ρ.set i (some z))) s2) (fun x s => E x ρ s)) (fun x s => E x ρ s)) (fun x s => E x ρ s) := by
  unfold sAug mVar
  cases h : ρ[i]? with
  | none => rfl
  | some o =>
    cases o with
    | none => rfl
    | some x =>
      simp only [wp_ok, wS_st]
      rfl
/-- behind one turn of a loop -/
def turnQ (k : Rho → S → Prop) (Q : C → S → Prop) : C → S → Prop
  | .nx ρ, s => k ρ s
  | .ct ρ, s => k ρ s
  | .bk ρ, s => Q (.nx ρ) s
  | .rt d, s => Q (.rt d) s
theorem wS_for {it : MI} {g : MG} {b : MS} : wS (sFor it g b ρ s) Q E = wp (it ρ s) (fun p s1 => wS (forL p.2 p.1 g b p.1 ρ s1) Q E) (fun x s => E x ρ s) := wS_st
open Classical in
theorem wS_forL_nil {gd : Option Nat} {all : List D} {g : MG} {b : MS} : wS (forL gd all g b [] ρ s) Q E = (gOk gd all s ∧ Q (.nx ρ) s) := by
  unfold forL
  rw [wS_ite]
  by_cases h : gOk gd all s
  · rw [if_pos h, wS_ok]; simp [h]
  · rw [if_neg h, wS_bad]; simp [h]
open Classical in
theorem wS_forL_cons {gd : Option Nat} {all xs : List D} {x : D} {g : MG} {b : MS} : wS (forL gd all g b (x :: xs) ρ s) Q E = (gOk gd all s ∧ wp (g x ρ s) (fun ρ1 s1 => wS (b ρ1 s1) (turnQ (fun ρ2 s2 => wS (forL gd all g b xs ρ2 s2) Q E) Q) E)) := by
  rw [show forL gd all g b (x :: xs) ρ s = _ from by unfold forL; rfl, wS_ite]
  by_cases h : gOk gd all s
  · rw [if_pos h]
    simp only [h, true_and]
    cases g x ρ s with
    | ok ρ1 s1 =>
      simp only [wp_ok]
      cases b ρ1 s1 with
      | ok c s2 => cases c <;> rfl
      | exc x ρ2 s2 => rfl
      | bad => rfl
    | exc x s1 => rfl
    | bad => rfl
  · rw [if_neg h, wS_bad]; simp [h]
/-- a for with an invariant: what stands ahead of the items xs -/
theorem wS_forL {gd : Option Nat} {all : List D} {g : MG} {b : MS} (I : List D → Rho → S → Prop) (hg : ∀ xs ρ s, I xs ρ s → gOk gd all s) (hn : ∀ ρ s, I [] ρ s → Q (.nx ρ) s)
    (hc : ∀ x xs ρ s, I (x :: xs) ρ s → wp (g x ρ s) (fun ρ1 s1 => wS (b ρ1 s1) (turnQ (I xs) Q) E)) : ∀ (xs : List D) (ρ : Rho) (s : S), I xs ρ s → wS (forL gd all g b xs ρ s) Q E
  | [], ρ, s, h => by rw [wS_forL_nil]; exact ⟨hg _ _ _ h, hn _ _ h⟩
  | x :: xs, ρ, s, h => by
    rw [wS_forL_cons]
    refine ⟨hg _ _ _ h, wp_mono (hc x xs ρ s h) fun ρ1 s1 h1 => wS_mono h1 fun c s2 h2 => ?_⟩
    cases c with
    | nx ρ2 => exact wS_forL I hg hn hc xs ρ2 s2 h2
    | ct ρ2 => exact wS_forL I hg hn hc xs ρ2 s2 h2
    | bk ρ2 => exact h2
    | rt d => exact h2
theorem wS_forN {all : List D} {g : MG} {b : MS} (I : List D → Rho → S → Prop) (hn : ∀ ρ s, I [] ρ s → Q (.nx ρ) s)
    (hc : ∀ x xs ρ s, I (x :: xs) ρ s → wp (g x ρ s) (fun ρ1 s1 => wS (b ρ1 s1) (turnQ (I xs) Q) E)) (xs : List D) (ρ : Rho) (s : S) (h : I xs ρ s) : wS (forL none all g b xs ρ s) Q E :=
  wS_forL (gd := none) I (fun _ _ _ _ => trivial) hn hc xs ρ s h
theorem wS_while {c : MT} {b : MS} : wS (sWhile c b ρ s) Q E = wp (c ρ s) (fun k s1 => if k = true then wS (b ρ s1) (turnQ (fun ρ2 s2 => wS (sWhile c b ρ2 s2) Q E) Q) E else Q (.nx ρ) s1) (fun x s => E x ρ s) := by
  rw [sWhile_eq]
  cases c ρ s with
  | exc x s1 => rfl
  | bad => rfl
  | ok k s1 =>
    cases k with
    | false => rfl
    | true =>
      simp only [wp_ok, if_true]
      cases b ρ s1 with
      | ok c s2 => cases c <;> rfl
      | exc x ρ2 s2 => rfl
      | bad => rfl
/-- a comprehension with an invariant -/
theorem wp_mapL {gd : Option Nat} {all : List D} {g : MG} {t : MT} {m : ME} {ρ : Rho} (I : List D → List D → S → Prop) {Q : List D → S → Prop} (hg : ∀ xs a s, I xs a s → gOk gd all s)
    (hc : ∀ x xs a s, I (x :: xs) a s → wp (g x ρ s) fun ρ1 s1 => wp (t ρ1 s1) fun k s2 => if k = true then wp (m ρ1 s2) fun d s3 => I xs (a ++ [d]) s3 else I xs a s2) :
    ∀ (xs a : List D) (s : S), I xs a s → (∀ a' s', I [] (a ++ a') s' → Q a' s') → wp (mapL gd all g t m xs ρ s) Q
  | [], a, s, h, hn => by
    unfold mapL
    rw [if_pos (hg _ _ _ h)]
    exact hn [] s (by rw [List.append_nil]; exact h)
  | x :: xs, a, s, h, hn => by
    unfold mapL
    rw [if_pos (hg _ _ _ h)]
    have h1 := hc x xs a s h
    cases e1 : g x ρ s with
    | exc y s1 => rw [e1] at h1; exact h1.elim
    | bad => rw [e1] at h1; exact h1.elim
    | ok ρ1 s1 =>
    rw [e1] at h1
    simp only [wp_ok] at h1 ⊢
    cases e2 : t ρ1 s1 with
    | exc y s2 => rw [e2] at h1; exact h1.elim
    | bad => rw [e2] at h1; exact h1.elim
    | ok k s2 =>
    rw [e2] at h1
    simp only [wp_ok] at h1
    cases k with
    | false =>
      simp only at h1 ⊢
      exact wp_mapL I hg hc xs a s2 h1 hn
    | true =>
      simp only [if_true] at h1 ⊢
      cases e3 : m ρ1 s2 with
      | exc y s3 => rw [e3] at h1; exact h1.elim
      | bad => rw [e3] at h1; exact h1.elim
      | ok d s3 =>
      rw [e3] at h1
      simp only [wp_ok] at h1 ⊢
      have h2 := wp_mapL (Q := fun ds s4 => Q (d :: ds) s4) I hg hc xs (a ++ [d]) s3 h1 fun a' s' h3 => hn (d :: a') s' (by rw [List.append_assoc] at h3; exact h3)
      cases e4 : mapL gd all g t m xs ρ s3 with
      | exc y s4 => rw [e4] at h2; exact h2.elim
      | bad => rw [e4] at h2; exact h2.elim
      | ok ds s4 => rw [e4] at h2; exact h2
end
section
variable {Q : D → S → Prop} {E : D → S → Prop} {ρ : Rho} {s : S}
theorem wp_lc {it : MI} {g : MG} {t : MT} {m : ME} {own : List Nat} : wp (mLc it g t m own ρ s) Q E = wp (it ρ s) (fun p s1 => wp (mapL p.2 p.1 g t m p.1 (wipeD ρ own) s1) (fun ds s2 => p.1.length ≤ sizeLine ∧ Q (.lst ds) s2)) E := by
  unfold mLc
  rw [wp_bind]
  congr 1
  funext p s1
  cases mapL p.2 p.1 g t m p.1 (wipeD ρ own) s1 with
  | ok ds s2 =>
    simp only [wp_ok]
    by_cases h : p.1.length ≤ sizeLine
    · rw [if_pos h]; simp [wp_ok, h]
    · rw [if_neg h]; simp [wp_bad, h]
  | exc x s2 => rfl
  | bad => rfl
theorem wp_fn {n tot : Nat} {m : MS} {ds : List D} (h : ds.length = n) : wp (mkFn n tot m ds s) Q E = wS (m (ds.map some ++ List.replicate (tot - n) none) s) (rtQ Q) (fun x _ s => E x s) := by
  unfold mkFn
  rw [if_pos h]
  cases m (ds.map some ++ List.replicate (tot - n) none) s with
  | ok c s1 => cases c <;> rfl
  | exc x ρ s1 => rfl
  | bad => rfl
def fzQ (n : Nat) (Q : D → S → Prop) : D → S → Prop := fun d s => ∃ d', frzD s n 20 d = some d' ∧ stOk n s = true ∧ Q d' (s.take n)
theorem wp_frzE {n : Nat} {r : R D} (h : wp r (fzQ n Q) (fzQ n E)) : wp (frzR n r) Q E := by
  cases r with
  | ok d s =>
    obtain ⟨d', e, h1, h2⟩ := h
    unfold frzR
    simp only [e]
    rw [if_pos h1]
    exact h2
  | exc x s =>
    obtain ⟨d', e, h1, h2⟩ := h
    unfold frzR
    simp only [e]
    rw [if_pos h1]
    exact h2
  | bad => exact h.elim
theorem wp_frz {n : Nat} {r : R D} (h : wp r (fzQ n Q)) : wp (frzR n r) Q E := wp_frzE (wp_monoE h fun _ _ z => z.elim)
theorem wp_make {c : Str} {G : List D → S → R D} {ms : MA} : wp (mMake c G ms ρ s) Q E = wp (ms ρ s) (fun ds s1 => wp (G (.ref s1.length :: ds) (s1 ++ [.ins c []])) (fun d s2 => d = .non ∧ Q (.ref s1.length) s2) E) E := by
  unfold mMake
  rw [wp_bind]
  congr 1
  funext ds s1
  cases G (.ref s1.length :: ds) (s1 ++ [.ins c []]) with
  | ok d s2 =>
    cases d <;> simp [wp_ok, wp_bad]
  | exc x s2 => rfl
  | bad => rfl
/-! values -/
theorem wp_m1 {f : D → S → R D} {a : ME} : wp (m1 f a ρ s) Q E = wp (a ρ s) (fun x s1 => wp (f x s1) Q E) E := wp_bind
theorem wp_m2 {f : D → D → S → R D} {a b : ME} : wp (m2 f a b ρ s) Q E = wp (a ρ s) (fun x s1 => wp (b ρ s1) (fun y s2 => wp (f x y s2) Q E) E) E := by
  unfold m2
  rw [wp_bind]
  congr 1
  funext x s1
  exact wp_bind
theorem wp_mN {f : List D → S → R D} {a : MA} : wp (mN f a ρ s) Q E = wp (a ρ s) (fun x s1 => wp (f x s1) Q E) E := wp_bind
theorem wp_aNil {Q : List D → S → Prop} : wp (aNil ρ s) Q E = Q [] s := rfl
theorem wp_aCons {a : ME} {r : MA} {Q : List D → S → Prop} : wp (aCons a r ρ s) Q E = wp (a ρ s) (fun x s1 => wp (r ρ s1) (fun xs s2 => Q (x :: xs) s2) E) E := by
  unfold aCons
  rw [wp_bind]
  congr 1
  funext x s1
  exact wp_bind
theorem wp_mC {d : D} : wp (mC d ρ s) Q E = Q d s := rfl
theorem wp_var {i : Nat} : wp (mVar i ρ s) Q E = match ρ[i]? with | some (some d) => Q d s | _ => False := by
  unfold mVar
  cases ρ[i]? with
  | none => rfl
  | some o => cases o <;> rfl
theorem wp_if {c : MT} {a b : ME} : wp (mIf c a b ρ s) Q E = wp (c ρ s) (fun k s1 => if k = true then wp (a ρ s1) Q E else wp (b ρ s1) Q E) E := by
  unfold mIf
  rw [wp_bind]
  congr 1
  funext k s1
  exact wp_ite
theorem wp_and {a b : ME} : wp (mAnd a b ρ s) Q E = wp (a ρ s) (fun d s1 => match d with | .bl true => wp (b ρ s1) Q E | .bl false => Q (.bl false) s1 | _ => False) E := by
  unfold mAnd
  rw [wp_bind]
  congr 1
  funext d s1
  cases d <;> try rfl
  rename_i k
  cases k <;> rfl
theorem wp_or {a b : ME} : wp (mOr a b ρ s) Q E = wp (a ρ s) (fun d s1 => match d with | .bl true => Q (.bl true) s1 | .bl false => wp (b ρ s1) Q E | _ => False) E := by
  unfold mOr
  rw [wp_bind]
  congr 1
  funext d s1
  cases d <;> try rfl
  rename_i k
  cases k <;> rfl
theorem wp_not {a : ME} : wp (mNot a ρ s) Q E = wp (a ρ s) (fun d s1 => match d with | .bl b => Q (.bl (!b)) s1 | _ => False) E := by
  unfold mNot
  rw [wp_bind]
  congr 1
  funext d s1
  cases d <;> rfl
theorem wp_chain {f g : D → D → S → R D} {a b c : ME} : wp (mChain f g a b c ρ s) Q E = wp (a ρ s) (fun x s1 => wp (b ρ s1) (fun y s2 => wp (f x y s2) (fun k s3 => match k with | .bl true => wp (c ρ s3) (fun z s4 => wp (g y z s4) Q E) E | .bl false => Q (.bl false) s3 | _ => False) E) E) E := by
  unfold mChain
  rw [wp_bind]
  congr 1
  funext x s1
  rw [wp_bind]
  congr 1
  funext y s2
  rw [wp_bind]
  congr 1
  funext k s3
  cases k <;> try rfl
  rename_i b
  cases b
  · rfl
  · exact wp_bind
theorem wp_mt {T : String} {f : D → List D → S → R D} {a : ME} {as : MA} : wp (mMt T f a as ρ s) Q E = wp (a ρ s) (fun x s1 => hasTy T s1 x = true ∧ wp (as ρ s1) (fun xs s2 => wp (f x xs s2) Q E) E) E := by
  unfold mMt
  rw [wp_bind]
  congr 1
  funext x s1
  by_cases h : hasTy T s1 x = true
  · rw [if_pos h, wp_bind]; simp [h]
  · rw [if_neg h]; simp [h, wp_bad]
theorem wp_get {a b : ME} : wp (mGet a b ρ s) Q E = wp (a ρ s) (fun x s1 => match x with | .dic kvs => wp (b ρ s1) (fun y s2 => match y with | .str z => Q ((kvs.lookup z).getD .non) s2 | _ => False) E | _ => False) E := by
  unfold mGet
  rw [wp_bind]
  congr 1
  funext x s1
  cases x <;> try rfl
  rename_i kvs
  simp only
  rw [wp_bind]
  congr 1
  funext y s2
  cases y <;> try rfl
  rename_i z
  simp only
  cases kvs.lookup z <;> rfl
theorem wp_isi {tys : List String} {a : ME} : wp (mIsi tys a ρ s) Q E = wp (a ρ s) (fun d s1 => match tyName s1 d with | some t => Q (.bl (tys.any (isSub t))) s1 | none => False) E := by
  unfold mIsi
  rw [wp_bind]
  congr 1
  funext d s1
  cases tyName s1 d <;> rfl
theorem wp_fld {f : Str} {cs : List Str} {a : ME} : wp (mFld f cs a ρ s) Q E = wp (a ρ s) (fun d s1 => match insOf s1 d with | some (c, fs) => c ∈ cs ∧ (match fs.lookup f with | some v => Q v s1 | none => False) | none => False) E := by
  unfold mFld
  rw [wp_bind]
  congr 1
  funext d s1
  cases insOf s1 d with
  | none => rfl
  | some p =>
    obtain ⟨c, fs⟩ := p
    simp only
    by_cases h : c ∈ cs
    · rw [if_pos h]
      simp only [h, true_and]
      cases fs.lookup f <;> rfl
    · rw [if_neg h]; simp [h, wp_bad]
theorem wp_sl {m : ME} {lo hi : Rho → S → R (Option Int)} : wp (mSl m lo hi ρ s) Q E = wp (m ρ s) (fun d s1 => wp (lo ρ s1) (fun l s2 => wp (hi ρ s2) (fun h s3 => wp (dSl l h d s3) Q E) E) E) E := by
  unfold mSl
  rw [wp_bind]
  congr 1
  funext d s1
  rw [wp_bind]
  congr 1
  funext l s2
  exact wp_bind
theorem wp_oNone {Q : Option Int → S → Prop} : wp (oNone ρ s) Q E = Q none s := rfl
theorem wp_oSome {m : ME} {Q : Option Int → S → Prop} : wp (oSome m ρ s) Q E = wp (m ρ s) (fun d s1 => match d with | .int i => Q (some i) s1 | _ => False) E := by
  unfold oSome
  rw [wp_bind]
  congr 1
  funext d s1
  cases d <;> rfl
/-! tests -/
variable {Q' : Bool → S → Prop}
theorem wp_tBool {a : ME} : wp (tBool a ρ s) Q' E = wp (a ρ s) (fun d s1 => match d with | .bl b => Q' b s1 | _ => False) E := by
  unfold tBool
  rw [wp_bind]
  congr 1
  funext d s1
  cases d <;> rfl
theorem wp_tTru {f : D → S → Option Bool} {a : ME} : wp (tTru f a ρ s) Q' E = wp (a ρ s) (fun d s1 => match f d s1 with | some b => Q' b s1 | none => False) E := by
  unfold tTru
  rw [wp_bind]
  congr 1
  funext d s1
  cases f d s1 <;> rfl
theorem wp_tNot {a : MT} : wp (tNot1 a ρ s) Q' E = wp (a ρ s) (fun k s1 => Q' (!k) s1) E := wp_bind
theorem wp_tAnd {a b : MT} : wp (tAnd2 a b ρ s) Q' E = wp (a ρ s) (fun k s1 => if k = true then wp (b ρ s1) Q' E else Q' false s1) E := by
  unfold tAnd2
  rw [wp_bind]
  congr 1
  funext k s1
  rw [wp_ite]
  rfl
theorem wp_tOr {a b : MT} : wp (tOr2 a b ρ s) Q' E = wp (a ρ s) (fun k s1 => if k = true then Q' true s1 else wp (b ρ s1) Q' E) E := by
  unfold tOr2
  rw [wp_bind]
  congr 1
  funext k s1
  rw [wp_ite]
  rfl
theorem wp_tAll : wp (tAll ρ s) Q' E = Q' true s := rfl
/-! targets, iterables -/
theorem wp_gSlot {i : Nat} {d : D} {Q : Rho → S → Prop} : wp (gSlot i d ρ s) Q E = Q (ρ.set i (some d)) s := rfl
theorem wp_gsNil {Q : Rho → S → Prop} : wp (gsNil [] ρ s) Q E = Q ρ s := rfl
theorem wp_gsCons {g : MG} {r : MGs} {d : D} {ds : List D} {Q : Rho → S → Prop} : wp (gsCons g r (d :: ds) ρ s) Q E = wp (g d ρ s) (fun ρ1 s1 => wp (r ds ρ1 s1) Q E) E := wp_bind
theorem wp_gTup {n : Nat} {r : MGs} {d : D} {Q : Rho → S → Prop} : wp (gTupD n r d ρ s) Q E = match d with | .tup ds => ds.length = n ∧ wp (r ds ρ s) Q E | _ => False := by
  unfold gTupD
  cases d <;> try rfl
  rename_i ds
  simp only
  by_cases h : ds.length = n
  · rw [if_pos h]; simp [h]
  · rw [if_neg h]; simp [h, wp_bad]
theorem wp_gSub {o i : ME} {v : D} {Q : Rho → S → Prop} : wp (gSubD o i v ρ s) Q E = wp (o ρ s) (fun x s1 => wp (i ρ s1) (fun y s2 => match dStore x y v s2 with | some s3 => Q ρ s3 | none => False) E) E := by
  unfold gSubD
  rw [wp_bind]
  congr 1
  funext x s1
  rw [wp_bind]
  congr 1
  funext y s2
  cases dStore x y v s2 <;> rfl
variable {QI : List D × Option Nat → S → Prop}
theorem wp_iSeq {m : ME} : wp (iSeq m ρ s) QI E = wp (m ρ s) (fun d s1 => match d with | .lst xs => QI (xs, none) s1 | .ref n => (match s1[n]? with | some (.lst xs) => QI (xs, some n) s1 | _ => False) | _ => False) E := by
  unfold iSeq
  rw [wp_bind]
  congr 1
  funext d s1
  cases d <;> try rfl
  rename_i n
  simp only
  cases s1[n]? with
  | none => rfl
  | some o => cases o <;> rfl
theorem wp_iAny {m : ME} : wp (iAny m ρ s) QI E = wp (m ρ s) (fun d s1 => match d with | .lst xs => QI (xs, none) s1 | .tup xs => QI (xs, none) s1 | .str x => QI (x.cps.toList.map fun c => .str ⟨#[c]⟩, none) s1 | .ref n => (match s1[n]? with | some (.lst xs) => QI (xs, some n) s1 | _ => False) | _ => False) E := by
  unfold iAny
  rw [wp_bind]
  congr 1
  funext d s1
  cases d <;> try rfl
  rename_i n
  simp only
  cases s1[n]? with
  | none => rfl
  | some o => cases o <;> rfl
theorem wp_iTup {m : ME} : wp (iTupD m ρ s) QI E = wp (m ρ s) (fun d s1 => match d with | .tup xs => QI (xs, none) s1 | _ => False) E := by
  unfold iTupD
  rw [wp_bind]
  congr 1
  funext d s1
  cases d <;> rfl
theorem wp_iStr {m : ME} : wp (iStrD m ρ s) QI E = wp (m ρ s) (fun d s1 => match d with | .str x => QI (x.cps.toList.map fun c => .str ⟨#[c]⟩, none) s1 | _ => False) E := by
  unfold iStrD
  rw [wp_bind]
  congr 1
  funext d s1
  cases d <;> rfl
theorem wp_iRange1 {m : ME} : wp (iRange1 m ρ s) QI E = wp (m ρ s) (fun d s1 => match d with | .int j => (-(2 ^ 62) ≤ j ∧ j < 2 ^ 62) ∧ QI (rng 0 j.toNat, none) s1 | _ => False) E := by
  unfold iRange1
  rw [wp_bind]
  congr 1
  funext d s1
  cases d <;> try rfl
  rename_i j
  simp only
  by_cases h : -(2 ^ 62) ≤ j ∧ j < 2 ^ 62
  · rw [if_pos h]; simp only [h, and_self, true_and]; rfl
  · rw [if_neg h]; simp only [h, false_and]; rfl
theorem wp_iRange2 {a b : ME} : wp (iRange2 a b ρ s) QI E = wp (a ρ s) (fun d s1 => wp (b ρ s1) (fun e s2 => match d, e with | .int i, .int j => (-(2 ^ 62) ≤ i ∧ i < 2 ^ 62 ∧ -(2 ^ 62) ≤ j ∧ j < 2 ^ 62) ∧ QI (rng i (j - i).toNat, none) s2 | _, _ => False) E) E := by
  unfold iRange2
  rw [wp_bind]
  congr 1
  funext d s1
  rw [wp_bind]
  congr 1
  funext e s2
  cases d <;> cases e <;> try rfl
  rename_i i j
  simp only
  by_cases h : -(2 ^ 62) ≤ i ∧ i < 2 ^ 62 ∧ -(2 ^ 62) ≤ j ∧ j < 2 ^ 62
  · rw [if_pos h]; simp only [h, and_self, true_and]; rfl
  · rw [if_neg h]; simp only [h, false_and]; rfl
theorem wp_iZip {a b : ME} : wp (iZipD a b ρ s) QI E = wp (a ρ s) (fun d s1 => wp (b ρ s1) (fun e s2 => match fview d, fview e with | some xs, some ys => QI (zipD xs ys, none) s2 | _, _ => False) E) E := by
  unfold iZipD
  rw [wp_bind]
  congr 1
  funext d s1
  rw [wp_bind]
  congr 1
  funext e s2
  cases fview d <;> cases fview e <;> rfl
theorem wS_fld {f : Str} {cs : List Str} {mo mv : ME} {Q : C → S → Prop} {E' : D → Rho → S → Prop} : wS (sFldD f cs mo mv ρ s) Q E' = wp (mv ρ s) (fun v s1 => wp (mo ρ s1) (fun d s2 => match d with
    | .ref n => (match s2[n]? with | some (.ins c fs) => (c ∈ cs ∧ fs.length < 1000) ∧ Q (.nx ρ) (s2.set n (.ins c (putFD f v fs))) | _ => False)
    | _ => False) (fun x s => E' x ρ s)) (fun x s => E' x ρ s) := by
  unfold sFldD
  rw [wS_st]
  congr 1
  funext v s1
  rw [wS_st]
  congr 1
  funext d s2
  cases d <;> try rfl
  rename_i n
  simp only
  cases s2[n]? with
  | none => rfl
  | some o =>
    cases o with
    | lst xs => rfl
    | dK kvs => rfl
    | ins c fs =>
      simp only
      by_cases h : c ∈ cs ∧ fs.length < 1000
      · rw [if_pos h]; simp only [h, and_self, true_and]; rfl
      · rw [if_neg h]; simp only [h, false_and]; rfl
end
def cutQ (n : Nat) (Q : C → S → Prop) : C → S → Prop
  | .nx ρ, s => stOk n s = true ∧ Q (.nx (cutRho n ρ)) (s.take n)
  | .ct ρ, s => stOk n s = true ∧ Q (.ct (cutRho n ρ)) (s.take n)
  | .bk ρ, s => stOk n s = true ∧ Q (.bk (cutRho n ρ)) (s.take n)
  | .rt d, s => Q (.rt d) s
theorem wS_cut {m : MS} {ρ : Rho} {s : S} {Q : C → S → Prop} {E : D → Rho → S → Prop} : wS (sCut m ρ s) Q E = wS (m ρ s) (cutQ s.length Q) E := by
  unfold sCut
  cases m ρ s with
  | bad => rfl
  | exc x ρ1 s1 => rfl
  | ok c s1 =>
    cases c with
    | rt d => rfl
    | nx ρ1 =>
      unfold cutS
      by_cases h : stOk s.length s1 = true
      · simp only [h, if_true]; show Q _ _ = (_ ∧ _); simp [h]
      · simp only [h]; show False = (_ ∧ _); simp [h]
    | ct ρ1 =>
      unfold cutS
      by_cases h : stOk s.length s1 = true
      · simp only [h, if_true]; show Q _ _ = (_ ∧ _); simp [h]
      · simp only [h]; show False = (_ ∧ _); simp [h]
    | bk ρ1 =>
      unfold cutS
      by_cases h : stOk s.length s1 = true
      · simp only [h, if_true]; show Q _ _ = (_ ∧ _); simp [h]
      · simp only [h]; show False = (_ ∧ _); simp [h]
end Pm.Z
namespace Pm
open PySem PySem.Spec PyProof.Rows L2

/-! ### the calculus, closed: no reading of what stands within wp and wS -/
structure wp {α : Type} (r : R α) (Q : α → S → Prop) (E : D → S → Prop := fun _ _ => False) : Prop where
  go : Z.wp r Q E
structure wS (r : RS) (Q : C → S → Prop) (E : D → Rho → S → Prop := fun _ _ _ => False) : Prop where
  go : Z.wS r Q E
theorem wp_eq {α : Type} : @wp α = @Z.wp α := funext fun r => funext fun Q => funext fun E => propext ⟨fun h => h.go, fun h => ⟨h⟩⟩
theorem wS_eq : @wS = @Z.wS := funext fun r => funext fun Q => funext fun E => propext ⟨fun h => h.go, fun h => ⟨h⟩⟩
def rtQ (Q : D → S → Prop) : C → S → Prop
  | .rt d, s => Q d s
  | .nx _, s => Q .non s
  | _, _ => False
def seqQ (b : MS) (Q : C → S → Prop) (E : D → Rho → S → Prop := fun _ _ _ => False) : C → S → Prop
  | .nx ρ, s => wS (b ρ s) Q E
  | c, s => Q c s
def turnQ (k : Rho → S → Prop) (Q : C → S → Prop) : C → S → Prop
  | .nx ρ, s => k ρ s
  | .ct ρ, s => k ρ s
  | .bk ρ, s => Q (.nx ρ) s
  | .rt d, s => Q (.rt d) s
def fzQ (n : Nat) (Q : D → S → Prop) : D → S → Prop := fun d s => ∃ d', frzD s n 20 d = some d' ∧ stOk n s = true ∧ Q d' (s.take n)
theorem rtQ_eq : rtQ = Z.rtQ := by
  funext Q c s
  cases c <;> rfl
theorem seqQ_eq : @seqQ = @Z.seqQ := by
  funext b Q E c s
  cases c <;> first
    | rfl
    | exact congrFun (congrFun (congrFun wS_eq _) _) _
theorem turnQ_eq : turnQ = Z.turnQ := by
  funext k Q c s
  cases c <;> rfl
theorem fzQ_eq : fzQ = Z.fzQ := rfl
section
variable {α β : Type} {Q : α → S → Prop} {E : D → S → Prop}
theorem wp_ok {a : α} {s : S} : wp (.ok a s) Q E = Q a s := by rw [wp_eq]; rfl
theorem wp_bad : wp (.bad : R α) Q E = False := by rw [wp_eq]; rfl
theorem wp_bind {r : R β} {f : β → S → R α} : wp (r.bind f) Q E = wp r (fun b s => wp (f b s) Q E) E := by simp only [wp_eq, wS_eq, rtQ_eq, seqQ_eq, turnQ_eq, fzQ_eq]; exact Z.wp_bind
theorem wp_mono {Q' : α → S → Prop} {r : R α} (h : wp r Q E) (k : ∀ a s, Q a s → Q' a s) : wp r Q' E := ⟨Z.wp_mono h.go k⟩
theorem wp_monoE {E' : D → S → Prop} {r : R α} (h : wp r Q E) (k : ∀ x s, E x s → E' x s) : wp r Q E' := ⟨Z.wp_monoE h.go k⟩
theorem wp_up {r : R α} (h : wp r Q) : wp r Q E := wp_monoE h fun _ _ z => z.elim
theorem wp_exc {x : D} {s : S} : wp (.exc x s : R α) Q E = E x s := by rw [wp_eq]; rfl
theorem wp_ite {p : Prop} [Decidable p] {a b : R α} : wp (if p then a else b) Q E = if p then wp a Q E else wp b Q E := by simp only [wp_eq, wS_eq, rtQ_eq, seqQ_eq, turnQ_eq, fzQ_eq]; exact Z.wp_ite
theorem wp_ex {r : R α} (h : wp r Q) : ∃ a s, r = .ok a s ∧ Q a s := Z.wp_ex h.go
end
section
variable {Q : C → S → Prop} {E : D → Rho → S → Prop} {ρ : Rho} {s : S}
theorem wS_ok {c : C} : wS (.ok c s) Q E = Q c s := by rw [wS_eq]; rfl
theorem wS_bad : wS .bad Q E = False := by rw [wS_eq]; rfl
theorem wS_mono {Q' : C → S → Prop} {r : RS} (h : wS r Q E) (k : ∀ a s, Q a s → Q' a s) : wS r Q' E := ⟨Z.wS_mono h.go k⟩
theorem wS_monoE {E' : D → Rho → S → Prop} {r : RS} (h : wS r Q E) (k : ∀ x ρ s, E x ρ s → E' x ρ s) : wS r Q E' := ⟨Z.wS_monoE h.go k⟩
theorem wS_up {r : RS} (h : wS r Q) : wS r Q E := wS_monoE h fun _ _ _ z => z.elim
theorem wS_exc {x : D} {ρ : Rho} {s : S} : wS (.exc x ρ s) Q E = E x ρ s := by rw [wS_eq]; rfl
theorem wS_ite {p : Prop} [Decidable p] {a b : RS} : wS (if p then a else b) Q E = if p then wS a Q E else wS b Q E := by simp only [wp_eq, wS_eq, rtQ_eq, seqQ_eq, turnQ_eq, fzQ_eq]; exact Z.wS_ite
theorem wS_st {α : Type} {r : R α} {f : α → S → RS} : wS (r.st ρ f) Q E = wp r (fun a s => wS (f a s) Q E) (fun x s => E x ρ s) := by simp only [wp_eq, wS_eq, rtQ_eq, seqQ_eq, turnQ_eq, fzQ_eq]; exact Z.wS_st
theorem wS_cons {a b : MS} : wS (ssCons a b ρ s) Q E = wS (a ρ s) (seqQ b Q E) E := by simp only [wp_eq, wS_eq, rtQ_eq, seqQ_eq, turnQ_eq, fzQ_eq]; exact Z.wS_cons
theorem wS_nil : wS (ssNil ρ s) Q E = Q (.nx ρ) s := by simp only [wp_eq, wS_eq, rtQ_eq, seqQ_eq, turnQ_eq, fzQ_eq]; exact Z.wS_nil
theorem wS_pass : wS (sPass ρ s) Q E = Q (.nx ρ) s := by simp only [wp_eq, wS_eq, rtQ_eq, seqQ_eq, turnQ_eq, fzQ_eq]; exact Z.wS_pass
theorem wS_break : wS (sBreak ρ s) Q E = Q (.bk ρ) s := by simp only [wp_eq, wS_eq, rtQ_eq, seqQ_eq, turnQ_eq, fzQ_eq]; exact Z.wS_break
theorem wS_cont : wS (sCont ρ s) Q E = Q (.ct ρ) s := by simp only [wp_eq, wS_eq, rtQ_eq, seqQ_eq, turnQ_eq, fzQ_eq]; exact Z.wS_cont
theorem wS_never : wS (sNever ρ s) Q E = False := by simp only [wp_eq, wS_eq, rtQ_eq, seqQ_eq, turnQ_eq, fzQ_eq]; exact Z.wS_never
theorem wS_set {i : Nat} {m : ME} : wS (sSet i m ρ s) Q E = wp (m ρ s) (fun d s1 => Q (.nx (ρ.set i (some d))) s1) (fun x s => E x ρ s) := by simp only [wp_eq, wS_eq, rtQ_eq, seqQ_eq, turnQ_eq, fzQ_eq]; exact Z.wS_set
theorem wS_expr {m : ME} : wS (sExpr m ρ s) Q E = wp (m ρ s) (fun _ s1 => Q (.nx ρ) s1) (fun x s => E x ρ s) := by simp only [wp_eq, wS_eq, rtQ_eq, seqQ_eq, turnQ_eq, fzQ_eq]; exact Z.wS_expr
theorem wS_ret {m : ME} : wS (sRet m ρ s) Q E = wp (m ρ s) (fun d s1 => Q (.rt d) s1) (fun x s => E x ρ s) := by simp only [wp_eq, wS_eq, rtQ_eq, seqQ_eq, turnQ_eq, fzQ_eq]; exact Z.wS_ret
theorem wS_retN : wS (sRetN ρ s) Q E = Q (.rt .non) s := by simp only [wp_eq, wS_eq, rtQ_eq, seqQ_eq, turnQ_eq, fzQ_eq]; exact Z.wS_retN
theorem wS_if {c : MT} {a b : MS} : wS (sIf c a b ρ s) Q E = wp (c ρ s) (fun k s1 => if k = true then wS (a ρ s1) Q E else wS (b ρ s1) Q E) (fun x s => E x ρ s) := by simp only [wp_eq, wS_eq, rtQ_eq, seqQ_eq, turnQ_eq, fzQ_eq]; exact Z.wS_if
theorem wS_asg {m : ME} {g : MG} : wS (sAsg m g ρ s) Q E = wp (m ρ s) (fun d s1 => wp (g d ρ s1) (fun ρ1 s2 => Q (.nx ρ1) s2)) (fun x s => E x ρ s) := by simp only [wp_eq, wS_eq, rtQ_eq, seqQ_eq, turnQ_eq, fzQ_eq]; exact Z.wS_asg
theorem wS_aug {i : Nat} {f : D → D → S → R D} {m : ME} : wS (sAug i f m ρ s) Q E = wp (mVar i ρ s) (fun x s0 => wp (m ρ s0) (fun y s1 => wp (f x y s1) (fun z s2 => Q (.nx (ρ.set i (some z))) s2) (fun x s => E x ρ s)) (fun x s => E x ρ s)) (fun x s => E x ρ s) := by simp only [wp_eq, wS_eq, rtQ_eq, seqQ_eq, turnQ_eq, fzQ_eq]; exact Z.wS_aug
theorem wS_for {it : MI} {g : MG} {b : MS} : wS (sFor it g b ρ s) Q E = wp (it ρ s) (fun p s1 => wS (forL p.2 p.1 g b p.1 ρ s1) Q E) (fun x s => E x ρ s) := by simp only [wp_eq, wS_eq, rtQ_eq, seqQ_eq, turnQ_eq, fzQ_eq]; exact Z.wS_for
theorem wS_forL_nil {gd : Option Nat} {all : List D} {g : MG} {b : MS} : wS (forL gd all g b [] ρ s) Q E = (gOk gd all s ∧ Q (.nx ρ) s) := by simp only [wp_eq, wS_eq, rtQ_eq, seqQ_eq, turnQ_eq, fzQ_eq]; exact Z.wS_forL_nil
theorem wS_forL_cons {gd : Option Nat} {all xs : List D} {x : D} {g : MG} {b : MS} : wS (forL gd all g b (x :: xs) ρ s) Q E = (gOk gd all s ∧ wp (g x ρ s) (fun ρ1 s1 => wS (b ρ1 s1) (turnQ (fun ρ2 s2 => wS (forL gd all g b xs ρ2 s2) Q E) Q) E)) := by simp only [wp_eq, wS_eq, rtQ_eq, seqQ_eq, turnQ_eq, fzQ_eq]; exact Z.wS_forL_cons
theorem wS_forL {gd : Option Nat} {all : List D} {g : MG} {b : MS} (I : List D → Rho → S → Prop) (hg : ∀ xs ρ s, I xs ρ s → gOk gd all s) (hn : ∀ ρ s, I [] ρ s → Q (.nx ρ) s)
    (hc : ∀ x xs ρ s, I (x :: xs) ρ s → wp (g x ρ s) (fun ρ1 s1 => wS (b ρ1 s1) (turnQ (I xs) Q) E)) (xs : List D) (ρ : Rho) (s : S) (h : I xs ρ s) : wS (forL gd all g b xs ρ s) Q E := by
  simp only [wp_eq, wS_eq, rtQ_eq, seqQ_eq, turnQ_eq, fzQ_eq] at hc hn ⊢
  exact Z.wS_forL I hg hn hc xs ρ s h
theorem wS_forN {all : List D} {g : MG} {b : MS} (I : List D → Rho → S → Prop) (hn : ∀ ρ s, I [] ρ s → Q (.nx ρ) s)
    (hc : ∀ x xs ρ s, I (x :: xs) ρ s → wp (g x ρ s) (fun ρ1 s1 => wS (b ρ1 s1) (turnQ (I xs) Q) E)) (xs : List D) (ρ : Rho) (s : S) (h : I xs ρ s) : wS (forL none all g b xs ρ s) Q E :=
  wS_forL (gd := none) I (fun _ _ _ _ => trivial) hn hc xs ρ s h
theorem wS_while {c : MT} {b : MS} : wS (sWhile c b ρ s) Q E = wp (c ρ s) (fun k s1 => if k = true then wS (b ρ s1) (turnQ (fun ρ2 s2 => wS (sWhile c b ρ2 s2) Q E) Q) E else Q (.nx ρ) s1) (fun x s => E x ρ s) := by simp only [wp_eq, wS_eq, rtQ_eq, seqQ_eq, turnQ_eq, fzQ_eq]; exact Z.wS_while
theorem wp_mapL {gd : Option Nat} {all : List D} {g : MG} {t : MT} {m : ME} {ρ : Rho} (I : List D → List D → S → Prop) {Q : List D → S → Prop} (hg : ∀ xs a s, I xs a s → gOk gd all s)
    (hc : ∀ x xs a s, I (x :: xs) a s → wp (g x ρ s) fun ρ1 s1 => wp (t ρ1 s1) fun k s2 => if k = true then wp (m ρ1 s2) fun d s3 => I xs (a ++ [d]) s3 else I xs a s2)
    (xs a : List D) (s : S) (h : I xs a s) (hn : ∀ a' s', I [] (a ++ a') s' → Q a' s') : wp (mapL gd all g t m xs ρ s) Q := by
  simp only [wp_eq, wS_eq, rtQ_eq, seqQ_eq, turnQ_eq, fzQ_eq] at hc ⊢
  exact Z.wp_mapL I hg hc xs a s h hn
theorem wp_mapN {all : List D} {g : MG} {t : MT} {m : ME} {ρ : Rho} (I : List D → List D → S → Prop) {Q : List D → S → Prop}
    (hc : ∀ x xs a s, I (x :: xs) a s → wp (g x ρ s) fun ρ1 s1 => wp (t ρ1 s1) fun k s2 => if k = true then wp (m ρ1 s2) fun d s3 => I xs (a ++ [d]) s3 else I xs a s2)
    (xs a : List D) (s : S) (h : I xs a s) (hn : ∀ a' s', I [] (a ++ a') s' → Q a' s') : wp (mapL none all g t m xs ρ s) Q := wp_mapL (gd := none) I (fun _ _ _ _ => trivial) hc xs a s h hn
end
section
variable {Q : D → S → Prop} {E : D → S → Prop} {ρ : Rho} {s : S}
theorem wp_lc {it : MI} {g : MG} {t : MT} {m : ME} {own : List Nat} : wp (mLc it g t m own ρ s) Q E = wp (it ρ s) (fun p s1 => wp (mapL p.2 p.1 g t m p.1 (wipeD ρ own) s1) (fun ds s2 => p.1.length ≤ sizeLine ∧ Q (.lst ds) s2)) E := by simp only [wp_eq, wS_eq, rtQ_eq, seqQ_eq, turnQ_eq, fzQ_eq]; exact Z.wp_lc
theorem wp_fn {n tot : Nat} {m : MS} {ds : List D} (h : ds.length = n) : wp (mkFn n tot m ds s) Q E = wS (m (ds.map some ++ List.replicate (tot - n) none) s) (rtQ Q) (fun x _ s => E x s) := by simp only [wp_eq, wS_eq, rtQ_eq, seqQ_eq, turnQ_eq, fzQ_eq]; exact Z.wp_fn h
theorem wp_frz {n : Nat} {r : R D} (h : wp r (fzQ n Q)) : wp (frzR n r) Q E := ⟨Z.wp_frz h.go⟩
theorem wp_frzE {n : Nat} {r : R D} (h : wp r (fzQ n Q) (fzQ n E)) : wp (frzR n r) Q E := ⟨Z.wp_frzE h.go⟩
theorem wp_mFz {m : ME} (h : wp (m ρ s) (fzQ s.length Q)) : wp (mFz m ρ s) Q E := wp_frz h
theorem wp_mkFz {F : List D → S → R D} {ds : List D} (h : wp (F ds s) (fzQ s.length Q)) : wp (mkFz F ds s) Q E := wp_frz h
theorem wp_mFzE {m : ME} (h : wp (m ρ s) (fzQ s.length Q) (fzQ s.length E)) : wp (mFz m ρ s) Q E := wp_frzE h
theorem wp_mkFzE {F : List D → S → R D} {ds : List D} (h : wp (F ds s) (fzQ s.length Q) (fzQ s.length E)) : wp (mkFz F ds s) Q E := wp_frzE h
theorem wp_make {c : Str} {G : List D → S → R D} {ms : MA} : wp (mMake c G ms ρ s) Q E = wp (ms ρ s) (fun ds s1 => wp (G (.ref s1.length :: ds) (s1 ++ [.ins c []])) (fun d s2 => d = .non ∧ Q (.ref s1.length) s2) E) E := by simp only [wp_eq, wS_eq, rtQ_eq, seqQ_eq, turnQ_eq, fzQ_eq]; exact Z.wp_make
theorem wp_m1 {f : D → S → R D} {a : ME} : wp (m1 f a ρ s) Q E = wp (a ρ s) (fun x s1 => wp (f x s1) Q E) E := by simp only [wp_eq, wS_eq, rtQ_eq, seqQ_eq, turnQ_eq, fzQ_eq]; exact Z.wp_m1
theorem wp_m2 {f : D → D → S → R D} {a b : ME} : wp (m2 f a b ρ s) Q E = wp (a ρ s) (fun x s1 => wp (b ρ s1) (fun y s2 => wp (f x y s2) Q E) E) E := by simp only [wp_eq, wS_eq, rtQ_eq, seqQ_eq, turnQ_eq, fzQ_eq]; exact Z.wp_m2
theorem wp_mN {f : List D → S → R D} {a : MA} : wp (mN f a ρ s) Q E = wp (a ρ s) (fun x s1 => wp (f x s1) Q E) E := by simp only [wp_eq, wS_eq, rtQ_eq, seqQ_eq, turnQ_eq, fzQ_eq]; exact Z.wp_mN
theorem wp_aNil {Q : List D → S → Prop} : wp (aNil ρ s) Q E = Q [] s := by simp only [wp_eq, wS_eq, rtQ_eq, seqQ_eq, turnQ_eq, fzQ_eq]; exact Z.wp_aNil
theorem wp_aCons {a : ME} {r : MA} {Q : List D → S → Prop} : wp (aCons a r ρ s) Q E = wp (a ρ s) (fun x s1 => wp (r ρ s1) (fun xs s2 => Q (x :: xs) s2) E) E := by simp only [wp_eq, wS_eq, rtQ_eq, seqQ_eq, turnQ_eq, fzQ_eq]; exact Z.wp_aCons
theorem wp_mC {d : D} : wp (mC d ρ s) Q E = Q d s := by simp only [wp_eq, wS_eq, rtQ_eq, seqQ_eq, turnQ_eq, fzQ_eq]; exact Z.wp_mC
theorem wp_var {i : Nat} : wp (mVar i ρ s) Q E = match ρ[i]? with | some (some d) => Q d s | _ => False := by simp only [wp_eq, wS_eq, rtQ_eq, seqQ_eq, turnQ_eq, fzQ_eq]; exact Z.wp_var
theorem wp_if {c : MT} {a b : ME} : wp (mIf c a b ρ s) Q E = wp (c ρ s) (fun k s1 => if k = true then wp (a ρ s1) Q E else wp (b ρ s1) Q E) E := by simp only [wp_eq, wS_eq, rtQ_eq, seqQ_eq, turnQ_eq, fzQ_eq]; exact Z.wp_if
theorem wp_and {a b : ME} : wp (mAnd a b ρ s) Q E = wp (a ρ s) (fun d s1 => match d with | .bl true => wp (b ρ s1) Q E | .bl false => Q (.bl false) s1 | _ => False) E := by simp only [wp_eq, wS_eq, rtQ_eq, seqQ_eq, turnQ_eq, fzQ_eq]; exact Z.wp_and
theorem wp_or {a b : ME} : wp (mOr a b ρ s) Q E = wp (a ρ s) (fun d s1 => match d with | .bl true => Q (.bl true) s1 | .bl false => wp (b ρ s1) Q E | _ => False) E := by simp only [wp_eq, wS_eq, rtQ_eq, seqQ_eq, turnQ_eq, fzQ_eq]; exact Z.wp_or
theorem wp_not {a : ME} : wp (mNot a ρ s) Q E = wp (a ρ s) (fun d s1 => match d with | .bl b => Q (.bl (!b)) s1 | _ => False) E := by simp only [wp_eq, wS_eq, rtQ_eq, seqQ_eq, turnQ_eq, fzQ_eq]; exact Z.wp_not
theorem wp_chain {f g : D → D → S → R D} {a b c : ME} : wp (mChain f g a b c ρ s) Q E = wp (a ρ s) (fun x s1 => wp (b ρ s1) (fun y s2 => wp (f x y s2) (fun k s3 => match k with | .bl true => wp (c ρ s3) (fun z s4 => wp (g y z s4) Q E) E | .bl false => Q (.bl false) s3 | _ => False) E) E) E := by simp only [wp_eq, wS_eq, rtQ_eq, seqQ_eq, turnQ_eq, fzQ_eq]; exact Z.wp_chain
theorem wp_mt {T : String} {f : D → List D → S → R D} {a : ME} {as : MA} : wp (mMt T f a as ρ s) Q E = wp (a ρ s) (fun x s1 => hasTy T s1 x = true ∧ wp (as ρ s1) (fun xs s2 => wp (f x xs s2) Q E) E) E := by simp only [wp_eq, wS_eq, rtQ_eq, seqQ_eq, turnQ_eq, fzQ_eq]; exact Z.wp_mt
theorem wp_get {a b : ME} : wp (mGet a b ρ s) Q E = wp (a ρ s) (fun x s1 => match x with | .dic kvs => wp (b ρ s1) (fun y s2 => match y with | .str z => Q ((kvs.lookup z).getD .non) s2 | _ => False) E | _ => False) E := by simp only [wp_eq, wS_eq, rtQ_eq, seqQ_eq, turnQ_eq, fzQ_eq]; exact Z.wp_get
theorem wp_isi {tys : List String} {a : ME} : wp (mIsi tys a ρ s) Q E = wp (a ρ s) (fun d s1 => match tyName s1 d with | some t => Q (.bl (tys.any (isSub t))) s1 | none => False) E := by simp only [wp_eq, wS_eq, rtQ_eq, seqQ_eq, turnQ_eq, fzQ_eq]; exact Z.wp_isi
theorem wp_fld {f : Str} {cs : List Str} {a : ME} : wp (mFld f cs a ρ s) Q E = wp (a ρ s) (fun d s1 => match insOf s1 d with | some (c, fs) => c ∈ cs ∧ (match fs.lookup f with | some v => Q v s1 | none => False) | none => False) E := by simp only [wp_eq, wS_eq, rtQ_eq, seqQ_eq, turnQ_eq, fzQ_eq]; exact Z.wp_fld
theorem wp_sl {m : ME} {lo hi : Rho → S → R (Option Int)} : wp (mSl m lo hi ρ s) Q E = wp (m ρ s) (fun d s1 => wp (lo ρ s1) (fun l s2 => wp (hi ρ s2) (fun h s3 => wp (dSl l h d s3) Q E) E) E) E := by simp only [wp_eq, wS_eq, rtQ_eq, seqQ_eq, turnQ_eq, fzQ_eq]; exact Z.wp_sl
theorem wp_oNone {Q : Option Int → S → Prop} : wp (oNone ρ s) Q E = Q none s := by simp only [wp_eq, wS_eq, rtQ_eq, seqQ_eq, turnQ_eq, fzQ_eq]; exact Z.wp_oNone
theorem wp_oSome {m : ME} {Q : Option Int → S → Prop} : wp (oSome m ρ s) Q E = wp (m ρ s) (fun d s1 => match d with | .int i => Q (some i) s1 | _ => False) E := by simp only [wp_eq, wS_eq, rtQ_eq, seqQ_eq, turnQ_eq, fzQ_eq]; exact Z.wp_oSome
variable {Q' : Bool → S → Prop}
theorem wp_tBool {a : ME} : wp (tBool a ρ s) Q' E = wp (a ρ s) (fun d s1 => match d with | .bl b => Q' b s1 | _ => False) E := by simp only [wp_eq, wS_eq, rtQ_eq, seqQ_eq, turnQ_eq, fzQ_eq]; exact Z.wp_tBool
theorem wp_tTru {f : D → S → Option Bool} {a : ME} : wp (tTru f a ρ s) Q' E = wp (a ρ s) (fun d s1 => match f d s1 with | some b => Q' b s1 | none => False) E := by simp only [wp_eq, wS_eq, rtQ_eq, seqQ_eq, turnQ_eq, fzQ_eq]; exact Z.wp_tTru
theorem wp_tNot {a : MT} : wp (tNot1 a ρ s) Q' E = wp (a ρ s) (fun k s1 => Q' (!k) s1) E := by simp only [wp_eq, wS_eq, rtQ_eq, seqQ_eq, turnQ_eq, fzQ_eq]; exact Z.wp_tNot
theorem wp_tAnd {a b : MT} : wp (tAnd2 a b ρ s) Q' E = wp (a ρ s) (fun k s1 => if k = true then wp (b ρ s1) Q' E else Q' false s1) E := by simp only [wp_eq, wS_eq, rtQ_eq, seqQ_eq, turnQ_eq, fzQ_eq]; exact Z.wp_tAnd
theorem wp_tOr {a b : MT} : wp (tOr2 a b ρ s) Q' E = wp (a ρ s) (fun k s1 => if k = true then Q' true s1 else wp (b ρ s1) Q' E) E := by simp only [wp_eq, wS_eq, rtQ_eq, seqQ_eq, turnQ_eq, fzQ_eq]; exact Z.wp_tOr
theorem wp_tAll : wp (tAll ρ s) Q' E = Q' true s := by simp only [wp_eq, wS_eq, rtQ_eq, seqQ_eq, turnQ_eq, fzQ_eq]; exact Z.wp_tAll
theorem wp_gSlot {i : Nat} {d : D} {Q : Rho → S → Prop} : wp (gSlot i d ρ s) Q E = Q (ρ.set i (some d)) s := by simp only [wp_eq, wS_eq, rtQ_eq, seqQ_eq, turnQ_eq, fzQ_eq]; exact Z.wp_gSlot
theorem wp_gsNil {Q : Rho → S → Prop} : wp (gsNil [] ρ s) Q E = Q ρ s := by simp only [wp_eq, wS_eq, rtQ_eq, seqQ_eq, turnQ_eq, fzQ_eq]; exact Z.wp_gsNil
theorem wp_gsCons {g : MG} {r : MGs} {d : D} {ds : List D} {Q : Rho → S → Prop} : wp (gsCons g r (d :: ds) ρ s) Q E = wp (g d ρ s) (fun ρ1 s1 => wp (r ds ρ1 s1) Q E) E := by simp only [wp_eq, wS_eq, rtQ_eq, seqQ_eq, turnQ_eq, fzQ_eq]; exact Z.wp_gsCons
theorem wp_gTup {n : Nat} {r : MGs} {d : D} {Q : Rho → S → Prop} : wp (gTupD n r d ρ s) Q E = match d with | .tup ds => ds.length = n ∧ wp (r ds ρ s) Q E | _ => False := by simp only [wp_eq, wS_eq, rtQ_eq, seqQ_eq, turnQ_eq, fzQ_eq]; exact Z.wp_gTup
theorem wp_gSub {o i : ME} {v : D} {Q : Rho → S → Prop} : wp (gSubD o i v ρ s) Q E = wp (o ρ s) (fun x s1 => wp (i ρ s1) (fun y s2 => match dStore x y v s2 with | some s3 => Q ρ s3 | none => False) E) E := by simp only [wp_eq, wS_eq, rtQ_eq, seqQ_eq, turnQ_eq, fzQ_eq]; exact Z.wp_gSub
variable {QI : List D × Option Nat → S → Prop}
theorem wp_iSeq {m : ME} : wp (iSeq m ρ s) QI E = wp (m ρ s) (fun d s1 => match d with | .lst xs => QI (xs, none) s1 | .ref n => (match s1[n]? with | some (.lst xs) => QI (xs, some n) s1 | _ => False) | _ => False) E := by simp only [wp_eq, wS_eq, rtQ_eq, seqQ_eq, turnQ_eq, fzQ_eq]; exact Z.wp_iSeq
theorem wp_iAny {m : ME} : wp (iAny m ρ s) QI E = wp (m ρ s) (fun d s1 => match d with | .lst xs => QI (xs, none) s1 | .tup xs => QI (xs, none) s1 | .str x => QI (x.cps.toList.map fun c => .str ⟨#[c]⟩, none) s1 | .ref n => (match s1[n]? with | some (.lst xs) => QI (xs, some n) s1 | _ => False) | _ => False) E := by simp only [wp_eq, wS_eq, rtQ_eq, seqQ_eq, turnQ_eq, fzQ_eq]; exact Z.wp_iAny
theorem wp_iTup {m : ME} : wp (iTupD m ρ s) QI E = wp (m ρ s) (fun d s1 => match d with | .tup xs => QI (xs, none) s1 | _ => False) E := by simp only [wp_eq, wS_eq, rtQ_eq, seqQ_eq, turnQ_eq, fzQ_eq]; exact Z.wp_iTup
theorem wp_iStr {m : ME} : wp (iStrD m ρ s) QI E = wp (m ρ s) (fun d s1 => match d with | .str x => QI (x.cps.toList.map fun c => .str ⟨#[c]⟩, none) s1 | _ => False) E := by simp only [wp_eq, wS_eq, rtQ_eq, seqQ_eq, turnQ_eq, fzQ_eq]; exact Z.wp_iStr
theorem wp_iRange1 {m : ME} : wp (iRange1 m ρ s) QI E = wp (m ρ s) (fun d s1 => match d with | .int j => (-(2 ^ 62) ≤ j ∧ j < 2 ^ 62) ∧ QI (rng 0 j.toNat, none) s1 | _ => False) E := by simp only [wp_eq, wS_eq, rtQ_eq, seqQ_eq, turnQ_eq, fzQ_eq]; exact Z.wp_iRange1
theorem wp_iRange2 {a b : ME} : wp (iRange2 a b ρ s) QI E = wp (a ρ s) (fun d s1 => wp (b ρ s1) (fun e s2 => match d, e with | .int i, .int j => (-(2 ^ 62) ≤ i ∧ i < 2 ^ 62 ∧ -(2 ^ 62) ≤ j ∧ j < 2 ^ 62) ∧ QI (rng i (j - i).toNat, none) s2 | _, _ => False) E) E := by simp only [wp_eq, wS_eq, rtQ_eq, seqQ_eq, turnQ_eq, fzQ_eq]; exact Z.wp_iRange2
theorem wp_iZip {a b : ME} : wp (iZipD a b ρ s) QI E = wp (a ρ s) (fun d s1 => wp (b ρ s1) (fun e s2 => match fview d, fview e with | some xs, some ys => QI (zipD xs ys, none) s2 | _, _ => False) E) E := by simp only [wp_eq, wS_eq, rtQ_eq, seqQ_eq, turnQ_eq, fzQ_eq]; exact Z.wp_iZip
theorem wS_fld {f : Str} {cs : List Str} {mo mv : ME} {Q : C → S → Prop} {E' : D → Rho → S → Prop} : wS (sFldD f cs mo mv ρ s) Q E' = wp (mv ρ s) (fun v s1 => wp (mo ρ s1) (fun d s2 => match d with
    | .ref n => (match s2[n]? with | some (.ins c fs) => (c ∈ cs ∧ fs.length < 1000) ∧ Q (.nx ρ) (s2.set n (.ins c (putFD f v fs))) | _ => False)
    | _ => False) (fun x s => E' x ρ s)) (fun x s => E' x ρ s) := by simp only [wp_eq, wS_eq, rtQ_eq, seqQ_eq, turnQ_eq, fzQ_eq]; exact Z.wS_fld
end

def cutQ (n : Nat) (Q : C → S → Prop) : C → S → Prop
  | .nx ρ, s => stOk n s = true ∧ Q (.nx (cutRho n ρ)) (s.take n)
  | .ct ρ, s => stOk n s = true ∧ Q (.ct (cutRho n ρ)) (s.take n)
  | .bk ρ, s => stOk n s = true ∧ Q (.bk (cutRho n ρ)) (s.take n)
  | .rt d, s => Q (.rt d) s
theorem cutQ_eq : cutQ = Z.cutQ := by
  funext n Q c s
  cases c <;> rfl
theorem wS_cut {m : MS} {ρ : Rho} {s : S} {Q : C → S → Prop} {E : D → Rho → S → Prop} : wS (sCut m ρ s) Q E = wS (m ρ s) (cutQ s.length Q) E := by simp only [wp_eq, wS_eq, cutQ_eq]; exact Z.wS_cut
end Pm
namespace Pm
open PySem PySem.Spec PyProof.Rows L2

/-! ### operators on written-out data -/
section
variable {Q : D → S → Prop} {E : D → S → Prop} {s : S} {a b : Int} {x y : Str}
theorem wp_ifb {p : Prop} [Decidable p] {r : R D} : wp (if p then r else .bad) Q E = (p ∧ wp r Q E) := by
  by_cases h : p
  · rw [if_pos h]; simp [h]
  · rw [if_neg h]; simp [h, wp_bad]
theorem wp_ifb' {p : Prop} [Decidable p] {d : D} {s : S} : wp (if p then R.ok d s else .bad) Q E = (p ∧ Q d s) := by rw [wp_ifb, wp_ok]
theorem lview_ref {n : Nat} {xs : List D} (h : s[n]? = some (.lst xs)) : lview s (.ref n) = some xs := by
  show (match s[n]? with | some (.lst xs) => some xs | _ => none) = some xs
  rw [h]
theorem w_add : wp (dAdd (.int a) (.int b) s) Q E = Q (.int (a + b)) s := wp_ok
theorem w_iadd : wp (dIAdd (.int a) (.int b) s) Q E = Q (.int (a + b)) s := wp_ok
theorem w_iaddS : wp (dIAdd (.str x) (.str y) s) Q E = (x.length + y.length ≤ sizeLine ∧ Q (.str (x ++ y)) s) := wp_ifb'
theorem w_addS : wp (dAdd (.str x) (.str y) s) Q E = (x.length + y.length ≤ sizeLine ∧ Q (.str (x ++ y)) s) := wp_ifb'
theorem w_addL {xs ys : List D} : wp (dAdd (.lst xs) (.lst ys) s) Q E = (xs.length + ys.length ≤ sizeLine ∧ Q (.lst (xs ++ ys)) s) := wp_ifb'
theorem w_addT {xs ys : List D} : wp (dAdd (.tup xs) (.tup ys) s) Q E = (xs.length + ys.length ≤ sizeLine ∧ Q (.tup (xs ++ ys)) s) := wp_ifb'
theorem w_sub : wp (dSub (.int a) (.int b) s) Q E = Q (.int (a - b)) s := wp_ok
theorem w_mul : wp (dMul (.int a) (.int b) s) Q E = (iBits a + iBits b ≤ 134217728 ∧ Q (.int (a * b)) s) := wp_ifb'
theorem w_mod : wp (dMod (.int a) (.int b) s) Q E = (0 < b ∧ Q (.int (a % b)) s) := wp_ifb'
theorem w_fdiv : wp (dFdiv (.int a) (.int b) s) Q E = ((0 < b ∧ b.natAbs.log2 < 9000) ∧ Q (.int (a / b)) s) := wp_ifb'
theorem w_pow : wp (dPow (.int a) (.int b) s) Q E = ((0 ≤ b ∧ b ≤ 1000000 ∧ a.natAbs < 2 ^ 64) ∧ Q (.int (a ^ b.toNat)) s) := wp_ifb'
theorem w_neg : wp (dNeg (.int a) s) Q E = Q (.int (-a)) s := wp_ok
theorem w_lt : wp (dLt (.int a) (.int b) s) Q E = Q (.bl (decide (a < b))) s := wp_ok
theorem w_le : wp (dLe (.int a) (.int b) s) Q E = Q (.bl (decide (a ≤ b))) s := wp_ok
theorem w_gt : wp (dGt (.int a) (.int b) s) Q E = Q (.bl (decide (a > b))) s := wp_ok
theorem w_ge : wp (dGe (.int a) (.int b) s) Q E = Q (.bl (decide (a ≥ b))) s := wp_ok
theorem w_eqI : wp (dEq (.int a) (.int b) s) Q E = Q (.bl (a == b)) s := wp_ok
theorem w_neI : wp (dNe (.int a) (.int b) s) Q E = Q (.bl (!(a == b))) s := wp_ok
theorem w_eqS (hx : PyData.strOk x = true) (hy : PyData.strOk y = true) : wp (dEq (.str x) (.str y) s) Q E = Q (.bl (x == y)) s := by
  unfold dEq toPy
  rw [if_pos hx, if_pos hy]
  exact wp_ok
theorem w_neS (hx : PyData.strOk x = true) (hy : PyData.strOk y = true) : wp (dNe (.str x) (.str y) s) Q E = Q (.bl (!(x == y))) s := by
  unfold dNe toPy
  rw [if_pos hx, if_pos hy]
  exact wp_ok
theorem eq_self {d : D} {p : PyData} (h : toPy s 60 d = some p) : dEq d d s = .ok (.bl true) s := by
  unfold dEq
  rw [h]
  simp only
  rw [PySem.SeqAt.eqv_refl p (toPy_lay 60 d p h).1]
theorem ne_self {d : D} {p : PyData} (h : toPy s 60 d = some p) : dNe d d s = .ok (.bl false) s := by
  unfold dNe
  rw [h]
  simp only
  rw [PySem.SeqAt.eqv_refl p (toPy_lay 60 d p h).1]
  rfl
theorem w_isN {d : D} : wp (dIs d .non s) Q E = Q (.bl (isNonD d)) s := by cases d <;> exact wp_ok
theorem w_isnotN {d : D} : wp (dIsNot d .non s) Q E = Q (.bl (!isNonD d)) s := by cases d <;> exact wp_ok
theorem w_isB {k j : Bool} : wp (dIs (.bl k) (.bl j) s) Q E = Q (.bl (k == j)) s := wp_ok
theorem w_isNB {j : Bool} : wp (dIs .non (.bl j) s) Q E = Q (.bl false) s := wp_ok
theorem w_len {xs : List D} : wp (dLen [.lst xs] s) Q E = Q (.int xs.length) s := wp_ok
theorem w_lenT {xs : List D} : wp (dLen [.tup xs] s) Q E = Q (.int xs.length) s := wp_ok
theorem w_lenS : wp (dLen [.str x] s) Q E = (x.length ≤ sizeLine ∧ Q (.int x.length) s) := wp_ifb'
theorem w_lenR {n : Nat} {xs : List D} (h : s[n]? = some (.lst xs)) : wp (dLen [.ref n] s) Q E = Q (.int xs.length) s := by
  show wp (match lview s (.ref n) with | some xs => R.ok (.int xs.length) s | none => .bad) Q E = _
  rw [lview_ref h]
  exact wp_ok
theorem w_int : wp (dInt [.int a] s) Q E = Q (.int a) s := wp_ok
theorem w_intB {k : Bool} : wp (dInt [.bl k] s) Q E = Q (.int (if k then 1 else 0)) s := wp_ok
theorem w_abs : wp (dAbs [.int a] s) Q E = Q (.int (if a < 0 then -a else a)) s := wp_ok
theorem w_min : wp (dMin2 [.int a, .int b] s) Q E = Q (.int (if b < a then b else a)) s := wp_ok
theorem w_max : wp (dMax2 [.int a, .int b] s) Q E = Q (.int (if b > a then b else a)) s := wp_ok
theorem w_tup {ds : List D} : wp (dTup ds s) Q E = (ds.length ≤ sizeLine ∧ Q (.tup ds) s) := wp_ifb'
theorem w_lst {ds : List D} : wp (dLst ds s) Q E = (ds.length ≤ sizeLine ∧ Q (.lst ds) s) := wp_ifb'
theorem w_new {ds : List D} : wp (dNew ds s) Q E = (ds.length ≤ sizeLine ∧ Q (.ref s.length) (s ++ [.lst ds])) := wp_ifb'
theorem w_list {xs : List D} : wp (dList false [.lst xs] s) Q E = Q (.lst xs) s := wp_ok
theorem w_listR {n : Nat} {xs : List D} (h : s[n]? = some (.lst xs)) : wp (dList false [.ref n] s) Q E = Q (.lst xs) s := by
  show wp (match sview s (.ref n) with | some xs => (if false = true then R.ok (.ref s.length) (s ++ [.lst xs]) else .ok (.lst xs) s) | none => .bad) Q E = _
  rw [show sview s (.ref n) = lview s (.ref n) from rfl, lview_ref h]
  exact wp_ok
theorem w_listN {xs : List D} : wp (dList true [.lst xs] s) Q E = Q (.ref s.length) (s ++ [.lst xs]) := wp_ok
theorem w_append {n : Nat} {xs : List D} {d : D} (h : s[n]? = some (.lst xs)) : wp (dAppend (.ref n) [d] s) Q E = (xs.length < sizeLine ∧ Q .non (s.set n (.lst (xs ++ [d])))) := by
  unfold dAppend
  simp only [h]
  exact wp_ifb'
theorem w_reverse {n : Nat} {xs : List D} (h : s[n]? = some (.lst xs)) : wp (dReverse (.ref n) [] s) Q E = Q .non (s.set n (.lst xs.reverse)) := by
  unfold dReverse
  simp only [h]
  exact wp_ok
theorem hasTy_list {xs : List D} : hasTy "list" s (.lst xs) = true := rfl
theorem hasTy_ref {n : Nat} {xs : List D} (h : s[n]? = some (.lst xs)) : hasTy "list" s (.ref n) = true := by
  show (lview s (.ref n)).isSome = true
  rw [lview_ref h]
  rfl
theorem hasTy_str : hasTy "str" s (.str x) = true := rfl
/-! places: the item by its index, whichever it is -/
theorem atI_nat {α : Type} {xs : List α} {i : Int} {n : Nat} (h : i = n) : atI xs i = xs[n]? := by
  subst h
  unfold atI ixN
  by_cases hl : (n : Int) < xs.length
  · rw [if_pos (by omega), if_pos hl]; simp
  · rw [if_pos (by omega), if_neg hl, List.getElem?_eq_none (by omega)]; rfl
theorem atI_mem {α : Type} {xs : List α} {i : Int} (h0 : 0 ≤ i) (h1 : i < xs.length) : ∃ x ∈ xs, atI xs i = some x ∧ xs[i.toNat]? = some x := by
  have e : i = (i.toNat : Nat) := by omega
  have hl : i.toNat < xs.length := by omega
  refine ⟨xs[i.toNat], List.getElem_mem hl, ?_, List.getElem?_eq_getElem hl⟩
  rw [atI_nat e, List.getElem?_eq_getElem hl]
theorem at_0 {α : Type} {x0 : α} {xs : List α} : atI (x0 :: xs) 0 = some x0 := (atI_nat (i := 0) (n := 0) rfl).trans rfl
theorem at_1 {α : Type} {x0 x1 : α} {xs : List α} : atI (x0 :: x1 :: xs) 1 = some x1 := (atI_nat (i := 1) (n := 1) rfl).trans rfl
theorem at_2 {α : Type} {x0 x1 x2 : α} {xs : List α} : atI (x0 :: x1 :: x2 :: xs) 2 = some x2 := (atI_nat (i := 2) (n := 2) rfl).trans rfl
theorem at_3 {α : Type} {x0 x1 x2 x3 : α} {xs : List α} : atI (x0 :: x1 :: x2 :: x3 :: xs) 3 = some x3 := (atI_nat (i := 3) (n := 3) rfl).trans rfl
theorem at_4 {α : Type} {x0 x1 x2 x3 x4 : α} {xs : List α} : atI (x0 :: x1 :: x2 :: x3 :: x4 :: xs) 4 = some x4 := (atI_nat (i := 4) (n := 4) rfl).trans rfl
theorem at_5 {α : Type} {x0 x1 x2 x3 x4 x5 : α} {xs : List α} : atI (x0 :: x1 :: x2 :: x3 :: x4 :: x5 :: xs) 5 = some x5 := (atI_nat (i := 5) (n := 5) rfl).trans rfl
theorem w_ix {xs : List D} {i : Int} : wp (dIx (.lst xs) (.int i) s) Q E = match atI xs i with | some d => Q d s | none => False := by
  show wp (match lview s (.lst xs) with | some xs => (match atI xs i with | some d => R.ok d s | none => .bad) | none => .bad) Q E = _
  unfold lview
  simp only
  cases atI xs i <;> first | exact wp_ok | exact wp_bad
theorem w_ixT {xs : List D} {i : Int} : wp (dIx (.tup xs) (.int i) s) Q E = match atI xs i with | some d => Q d s | none => False := by
  unfold dIx
  simp only
  cases atI xs i <;> first | exact wp_ok | exact wp_bad
theorem w_ixR {n : Nat} {xs : List D} {i : Int} (h : s[n]? = some (.lst xs)) : wp (dIx (.ref n) (.int i) s) Q E = match atI xs i with | some d => Q d s | none => False := by
  show wp (match lview s (.ref n) with | some xs => (match atI xs i with | some d => R.ok d s | none => .bad) | none => .bad) Q E = _
  rw [lview_ref h]
  simp only
  cases atI xs i <;> first | exact wp_ok | exact wp_bad
theorem w_sl1 {d : D} {xs : List D} : wp (dSl (some 1) none (.tup (d :: xs)) s) Q E = Q (.tup xs) s := by
  have e : dCut (d :: xs) (some 1) none = xs := by
    unfold dCut
    rw [show HT.sIx (d :: xs).length 0 (some 1) = min 1 (d :: xs).length from HT.sIx_nat _ _ 1, HT.sIx_none]
    simp
  show wp (R.ok (.tup (dCut (d :: xs) (some 1) none)) s) Q E = _
  rw [e, wp_ok]
theorem w_ixD {kvs : List (Str × D)} {z : Str} : wp (dIx (.dic kvs) (.str z) s) Q E = match kvs.lookup z with | some d => Q d s | none => False := by
  unfold dIx
  simp only
  cases kvs.lookup z <;> first | exact wp_ok | exact wp_bad
/-- an item at a place that is within -/
theorem ix_any {xs : List D} {i : Int} (h0 : 0 ≤ i) (h1 : i < xs.length) (h : ∀ d ∈ xs, Q d s) : wp (dIx (.lst xs) (.int i) s) Q E := by
  obtain ⟨d, hd, e, _⟩ := atI_mem h0 h1
  rw [w_ix, e]
  exact h d hd
theorem w_store {n : Nat} {xs : List D} {k : Int} {v : D} (h : s[n]? = some (.lst xs)) (h0 : 0 ≤ k) (h1 : k < xs.length) : dStore (.ref n) (.int k) v s = some (s.set n (.lst (xs.set k.toNat v))) := by
  unfold dStore
  simp only [h]
  have e : ixN xs.length k = some k.toNat := by
    unfold ixN
    rw [if_pos h0, if_pos h1]
  rw [e]
theorem w_inL {xs : List D} {d : D} (f : flatD d = true) (g : xs.all flatD = true) : wp (dIn d (.lst xs) s) Q E = Q (.bl (xs.any fun z => sEq z d)) s := by
  have e : dMem d (.lst xs) s = some (xs.any fun z => sEq z d) := by
    cases d <;> first
      | (simp only [flatD] at f; cases f; done)
      | (simp only [dMem, lview, f, g]; simp)
  unfold dIn
  rw [e]
  exact wp_ok
end
/-! texts that are written out -/
theorem str_beq (x y : String) : (Str.ofString x == Str.ofString y) = (x == y) := by
  rw [Bool.eq_iff_iff]
  constructor
  · intro h
    have e := beq_iff_eq.mp h
    rw [Str.ofString_eq_toList, Str.ofString_eq_toList] at e
    have e2 : x.toList.map Char.toNat = y.toList.map Char.toNat := by
      have := congrArg (fun z : Str => z.cps.toList) e
      simpa using this
    have inj : ∀ a b : Char, a.toNat = b.toNat → a = b := fun a b h => Char.ext (UInt32.toNat.inj h)
    have e3 : x.toList = y.toList := List.map_inj_right (fun a b h => inj a b h) |>.mp e2
    exact beq_iff_eq.mpr (String.toList_inj.mp e3)
  · intro h
    exact beq_iff_eq.mpr (congrArg _ (beq_iff_eq.mp h))
theorem strOk_of (x : String) : PyData.strOk (Str.ofString x) = true := by
  rw [Str.ofString_eq_toList]
  unfold PyData.strOk
  rw [← Array.all_toList, List.all_eq_true]
  intro c hc
  obtain ⟨d, _, rfl⟩ := List.mem_map.mp (by simpa using hc)
  have h := d.valid
  have : d.toNat < 0x110000 := by
    rcases h with h | h
    · exact Nat.lt_trans h (by decide)
    · exact h.2
  exact decide_eq_true this
section
variable {Q : D → S → Prop} {E : D → S → Prop} {s : S} {x y : String}
theorem w_eqT : wp (dEq (.str (Str.ofString x)) (.str (Str.ofString y)) s) Q E = Q (.bl (x == y)) s := by rw [w_eqS (strOk_of x) (strOk_of y), str_beq]
theorem w_neT : wp (dNe (.str (Str.ofString x)) (.str (Str.ofString y)) s) Q E = Q (.bl (!(x == y))) s := by rw [w_neS (strOk_of x) (strOk_of y), str_beq]
theorem sEq_T : sEq (.str (Str.ofString x)) (.str (Str.ofString y)) = (x == y) := str_beq x y
theorem w_inTs {xs : List String} {z : String} : wp (dIn (.str (Str.ofString z)) (.lst (xs.map fun x => .str (Str.ofString x))) s) Q E = Q (.bl (xs.any fun x => x == z)) s := by
  have e : (xs.map fun x => D.str (Str.ofString x)).all flatD = true := by
    rw [List.all_map]; exact List.all_eq_true.mpr fun _ _ => rfl
  rw [w_inL rfl e, List.any_map]
  congr 3
  funext x
  exact sEq_T
theorem w_notinTs {xs : List String} {z : String} : wp (dNotIn (.str (Str.ofString z)) (.lst (xs.map fun x => .str (Str.ofString x))) s) Q E = Q (.bl (!xs.any fun x => x == z)) s := by
  have e : (xs.map fun x => D.str (Str.ofString x)).all flatD = true := by
    rw [List.all_map]; exact List.all_eq_true.mpr fun _ _ => rfl
  have e2 : dMem (.str (Str.ofString z)) (.lst (xs.map fun x => .str (Str.ofString x))) s = some ((xs.map fun x => D.str (Str.ofString x)).any fun y => sEq y (.str (Str.ofString z))) := by
    simp only [dMem, lview, flatD, e]; simp
  unfold dNotIn
  rw [e2, List.any_map]
  refine wp_ok.trans ?_
  congr 4
  funext x
  exact sEq_T
theorem w_inT1 {x0 z : String} : wp (dIn (.str (Str.ofString z)) (.lst [.str (Str.ofString x0)]) s) Q E = Q (.bl ((x0 == z || false))) s := w_inTs (xs := [x0])
theorem w_notinT1 {x0 z : String} : wp (dNotIn (.str (Str.ofString z)) (.lst [.str (Str.ofString x0)]) s) Q E = Q (.bl (!(x0 == z || false))) s := w_notinTs (xs := [x0])
theorem w_inT2 {x0 x1 z : String} : wp (dIn (.str (Str.ofString z)) (.lst [.str (Str.ofString x0), .str (Str.ofString x1)]) s) Q E = Q (.bl ((x0 == z || (x1 == z || false)))) s := w_inTs (xs := [x0, x1])
theorem w_notinT2 {x0 x1 z : String} : wp (dNotIn (.str (Str.ofString z)) (.lst [.str (Str.ofString x0), .str (Str.ofString x1)]) s) Q E = Q (.bl (!(x0 == z || (x1 == z || false)))) s := w_notinTs (xs := [x0, x1])
theorem w_inT3 {x0 x1 x2 z : String} : wp (dIn (.str (Str.ofString z)) (.lst [.str (Str.ofString x0), .str (Str.ofString x1), .str (Str.ofString x2)]) s) Q E = Q (.bl ((x0 == z || (x1 == z || (x2 == z || false))))) s := w_inTs (xs := [x0, x1, x2])
theorem w_notinT3 {x0 x1 x2 z : String} : wp (dNotIn (.str (Str.ofString z)) (.lst [.str (Str.ofString x0), .str (Str.ofString x1), .str (Str.ofString x2)]) s) Q E = Q (.bl (!(x0 == z || (x1 == z || (x2 == z || false))))) s := w_notinTs (xs := [x0, x1, x2])
theorem w_inT4 {x0 x1 x2 x3 z : String} : wp (dIn (.str (Str.ofString z)) (.lst [.str (Str.ofString x0), .str (Str.ofString x1), .str (Str.ofString x2), .str (Str.ofString x3)]) s) Q E = Q (.bl ((x0 == z || (x1 == z || (x2 == z || (x3 == z || false)))))) s := w_inTs (xs := [x0, x1, x2, x3])
theorem w_notinT4 {x0 x1 x2 x3 z : String} : wp (dNotIn (.str (Str.ofString z)) (.lst [.str (Str.ofString x0), .str (Str.ofString x1), .str (Str.ofString x2), .str (Str.ofString x3)]) s) Q E = Q (.bl (!(x0 == z || (x1 == z || (x2 == z || (x3 == z || false)))))) s := w_notinTs (xs := [x0, x1, x2, x3])
theorem w_inT5 {x0 x1 x2 x3 x4 z : String} : wp (dIn (.str (Str.ofString z)) (.lst [.str (Str.ofString x0), .str (Str.ofString x1), .str (Str.ofString x2), .str (Str.ofString x3), .str (Str.ofString x4)]) s) Q E = Q (.bl ((x0 == z || (x1 == z || (x2 == z || (x3 == z || (x4 == z || false))))))) s := w_inTs (xs := [x0, x1, x2, x3, x4])
theorem w_notinT5 {x0 x1 x2 x3 x4 z : String} : wp (dNotIn (.str (Str.ofString z)) (.lst [.str (Str.ofString x0), .str (Str.ofString x1), .str (Str.ofString x2), .str (Str.ofString x3), .str (Str.ofString x4)]) s) Q E = Q (.bl (!(x0 == z || (x1 == z || (x2 == z || (x3 == z || (x4 == z || false))))))) s := w_notinTs (xs := [x0, x1, x2, x3, x4])
theorem w_inT6 {x0 x1 x2 x3 x4 x5 z : String} : wp (dIn (.str (Str.ofString z)) (.lst [.str (Str.ofString x0), .str (Str.ofString x1), .str (Str.ofString x2), .str (Str.ofString x3), .str (Str.ofString x4), .str (Str.ofString x5)]) s) Q E = Q (.bl ((x0 == z || (x1 == z || (x2 == z || (x3 == z || (x4 == z || (x5 == z || false)))))))) s := w_inTs (xs := [x0, x1, x2, x3, x4, x5])
theorem w_notinT6 {x0 x1 x2 x3 x4 x5 z : String} : wp (dNotIn (.str (Str.ofString z)) (.lst [.str (Str.ofString x0), .str (Str.ofString x1), .str (Str.ofString x2), .str (Str.ofString x3), .str (Str.ofString x4), .str (Str.ofString x5)]) s) Q E = Q (.bl (!(x0 == z || (x1 == z || (x2 == z || (x3 == z || (x4 == z || (x5 == z || false)))))))) s := w_notinTs (xs := [x0, x1, x2, x3, x4, x5])
theorem w_inT7 {x0 x1 x2 x3 x4 x5 x6 z : String} : wp (dIn (.str (Str.ofString z)) (.lst [.str (Str.ofString x0), .str (Str.ofString x1), .str (Str.ofString x2), .str (Str.ofString x3), .str (Str.ofString x4), .str (Str.ofString x5), .str (Str.ofString x6)]) s) Q E = Q (.bl ((x0 == z || (x1 == z || (x2 == z || (x3 == z || (x4 == z || (x5 == z || (x6 == z || false))))))))) s := w_inTs (xs := [x0, x1, x2, x3, x4, x5, x6])
theorem w_notinT7 {x0 x1 x2 x3 x4 x5 x6 z : String} : wp (dNotIn (.str (Str.ofString z)) (.lst [.str (Str.ofString x0), .str (Str.ofString x1), .str (Str.ofString x2), .str (Str.ofString x3), .str (Str.ofString x4), .str (Str.ofString x5), .str (Str.ofString x6)]) s) Q E = Q (.bl (!(x0 == z || (x1 == z || (x2 == z || (x3 == z || (x4 == z || (x5 == z || (x6 == z || false))))))))) s := w_notinTs (xs := [x0, x1, x2, x3, x4, x5, x6])
theorem w_inT8 {x0 x1 x2 x3 x4 x5 x6 x7 z : String} : wp (dIn (.str (Str.ofString z)) (.lst [.str (Str.ofString x0), .str (Str.ofString x1), .str (Str.ofString x2), .str (Str.ofString x3), .str (Str.ofString x4), .str (Str.ofString x5), .str (Str.ofString x6), .str (Str.ofString x7)]) s) Q E = Q (.bl ((x0 == z || (x1 == z || (x2 == z || (x3 == z || (x4 == z || (x5 == z || (x6 == z || (x7 == z || false)))))))))) s := w_inTs (xs := [x0, x1, x2, x3, x4, x5, x6, x7])
theorem w_notinT8 {x0 x1 x2 x3 x4 x5 x6 x7 z : String} : wp (dNotIn (.str (Str.ofString z)) (.lst [.str (Str.ofString x0), .str (Str.ofString x1), .str (Str.ofString x2), .str (Str.ofString x3), .str (Str.ofString x4), .str (Str.ofString x5), .str (Str.ofString x6), .str (Str.ofString x7)]) s) Q E = Q (.bl (!(x0 == z || (x1 == z || (x2 == z || (x3 == z || (x4 == z || (x5 == z || (x6 == z || (x7 == z || false)))))))))) s := w_notinTs (xs := [x0, x1, x2, x3, x4, x5, x6, x7])
end
theorem small_bits {a : Int} {k : Nat} (h : a.natAbs < 2 ^ k) : iBits a ≤ k := Int.ofNat_le.mpr (intBits_le_iff.mpr h)
theorem line_of {n : Nat} (h : n ≤ 1000000) : n ≤ sizeLine := Nat.le_trans h (by decide)
theorem line_eq : sizeLine = 16777216 := by decide
end Pm
namespace Pm
open PySem PySem.Spec PyProof.Rows L2
noncomputable section
/-! ### the helpers that all laws share: the deck, a card, what a datum is told as -/
def g_deck_m : MS := (ssCons (sSet 3 (mN dNew aNil))
  (ssCons (sSet 4 (m2 dAdd (mC (.int 7)) (mN dLen (aCons (mVar 0) aNil))))
  (ssCons (sFor (iRange1 (mVar 1)) (gSlot 5)
  (ssCons (sSet 6 (mC (.int 0)))
  (ssCons (sIf (tBool (m2 dLt (mVar 5) (mN dLen (aCons (mVar 0) aNil))))
  (sSet 6 (m2 dIx (mVar 0) (mVar 5)))
  ssNil)
  (ssCons (sSet 7 (mN dAbs (aCons (mVar 6) aNil)))
  (sIf (tBool (m2 dGe (mVar 7) (m2 dPow (mC (.int 10)) (mC (.int 30)))))
  (sFor (iRange1 (mVar 2)) (gSlot 8)
  (ssCons (sExpr (mMt "list" dAppend (mVar 3) (aCons (m2 dMod (mN dInt (aCons (mVar 7) aNil)) (mC (.int 1000003))) aNil)))
  (sSet 7 (m2 dFdiv (mVar 7) (mC (.int 1000003))))))
  (ssCons (sSet 4 (m2 dMod (mN dInt (aCons (m2 dAdd (m2 dAdd (m2 dAdd (m2 dMul (mVar 4) (mC (.int 48271))) (m2 dMul (mC (.int 2)) (mVar 7))) (mN dInt (aCons (m2 dLt (mVar 6) (mC (.int 0))) aNil))) (mVar 5)) aNil)) (mC (.int 2147483647))))
  (sFor (iRange1 (mVar 2)) (gSlot 8)
  (ssCons (sSet 4 (m2 dMod (mN dInt (aCons (m2 dAdd (m2 dAdd (m2 dMul (mVar 4) (mC (.int 69621))) (mVar 8)) (mC (.int 1))) aNil)) (mC (.int 2147483629))))
  (sExpr (mMt "list" dAppend (mVar 3) (aCons (m2 dMod (mN dInt (aCons (m2 dFdiv (mVar 4) (mC (.int 5))) aNil)) (mC (.int 1000003))) aNil)))))))))))
  (ssCons (sExpr (mMt "list" dReverse (mVar 3) aNil))
  (sRet (mVar 3))))))
def g_deck : List D → S → R D := mkFn 3 9 g_deck_m
def g_take_m : MS := (ssCons (sIf (tBool (m2 dEq (mN dLen (aCons (mVar 0) aNil)) (mC (.int 0))))
  (sRet (mC (.int 0)))
  ssNil)
  (sRet (m2 dMod (mN dInt (aCons (mMt "list" dPop (mVar 0) aNil) aNil)) (mVar 1))))
def g_take : List D → S → R D := mkFn 2 2 g_take_m
def g_plain_m (G : List D → S → R D) : MS := (ssCons (sIf (tTru dTru (mIsi ["tuple", "list"] (mVar 0)))
  (sRet (m2 dAdd (mN dLst (aCons (mIsi ["list"] (mVar 0)) aNil)) (mLc (iAny (mVar 0)) (gSlot 1) tAll (mN G (aCons (mVar 1) aNil)) [1])))
  ssNil)
  (ssCons (sIf (tOr2 (tBool (m2 dIs (mVar 0) (mC .non))) (tTru dTru (mIsi ["bool"] (mVar 0))))
  (sRet (m2 dIx (mN dLst (aCons (mC (.str "None")) (aCons (mC (.str "False")) (aCons (mC (.str "True")) aNil)))) (m2 dAdd (mN dInt (aCons (m2 dIsNot (mVar 0) (mC .non)) aNil)) (mN dInt (aCons (m2 dIs (mVar 0) (mC (.bl true))) aNil)))))
  ssNil)
  (ssCons (sIf (tTru dTru (mIsi ["int", "str"] (mVar 0)))
  (sRet (mN dLst (aCons (mIsi ["str"] (mVar 0)) (aCons (mVar 0) aNil))))
  ssNil)
  (sRet (mC (.str "another"))))))
def g_plain : Nat → List D → S → R D
  | 0 => mkFn 1 2 sNever
  | k + 1 => mkFn 1 2 (g_plain_m (g_plain k))

/-- the deck stands first in the store: numbers from 0 on -/
def Dk (s t : S) : Prop := ∃ L : List Int, s = .lst (L.map .int) :: t ∧ ∀ x ∈ L, 0 ≤ x
theorem Dk.at {s t : S} (h : Dk s t) : ∃ L : List D, s[0]? = some (.lst L) := by
  obtain ⟨L, rfl, _⟩ := h
  exact ⟨_, rfl⟩
theorem take_wp {s t : S} {m : Int} {Q : D → S → Prop} {E : D → S → Prop} (h : Dk s t) (hm : 0 < m) (k : ∀ v s', 0 ≤ v → v < m → Dk s' t → Q (.int v) s') : wp (g_take [.ref 0, .int m] s) Q E := by
  refine wp_up ?_
  obtain ⟨L, rfl, hL⟩ := h
  refine (wp_fn rfl).mpr ?_
  show wS (g_take_m [some (.ref 0), some (.int m)] _) _
  unfold g_take_m
  simp only [wp_ok, wp_bad, wp_bind, wS_ok, wS_bad, wS_cons, wS_nil, wS_pass, wS_break, wS_cont, wS_never, wS_set, wS_expr, wS_ret, wS_retN, wS_if, wS_asg, wS_aug, wS_for, wp_lc, wp_m1, wp_m2, wp_mN, wp_aNil, wp_aCons, wp_mC, wp_var, wp_if, wp_and, wp_or, wp_not, wp_chain, wp_mt, wp_get, wp_isi, wp_fld, wp_sl, wp_oNone, wp_oSome, wp_tBool, wp_tTru, wp_tNot, wp_tAnd, wp_tOr, wp_tAll, wp_gSlot, wp_gsNil, wp_gsCons, wp_gTup, wp_gSub, wp_iAny, wp_iSeq, wp_iTup, wp_iStr, wp_iRange1, wp_iRange2, wp_iZip, wS_fld, wp_make, seqQ, rtQ, turnQ, List.getElem?_cons_zero, List.getElem?_cons_succ, List.set_cons_zero, List.set_cons_succ, wipeD, if_true, if_false, Bool.false_eq_true, Bool.true_eq_false, reduceIte]
  rw [w_lenR (xs := L.map .int) rfl, w_eqI]
  simp only [List.length_map]
  cases hl : L.reverse with
  | nil =>
    have e : L = [] := by simpa using hl
    subst e
    simp only [List.length_nil, if_true]
    exact k 0 _ (Int.le_refl 0) hm ⟨[], rfl, hL⟩
  | cons x r =>
    have e : L = r.reverse ++ [x] := by
      have := congrArg List.reverse hl
      simpa using this
    subst e
    have hne : ((((r.reverse ++ [x]).length : Nat) : Int) == 0) = false := by simp; omega
    rw [hne]
    simp only [Bool.false_eq_true, if_false]
    refine ⟨hasTy_ref (xs := (r.reverse ++ [x]).map .int) rfl, ?_⟩
    have ep : dPop (.ref 0) [] (O.lst ((r.reverse ++ [x]).map .int) :: t) = .ok (.int x) (O.lst (r.reverse.map .int) :: t) := by
      unfold dPop
      simp only [List.getElem?_cons_zero, List.set_cons_zero]
      have e1 : ((r.reverse ++ [x]).map D.int)[((r.reverse ++ [x]).map D.int).length - 1]? = some (.int x) := by simp
      rw [e1]
      simp
    rw [ep]
    simp only [wp_ok, w_int, w_mod]
    have hx : 0 ≤ x := hL x (by simp)
    exact ⟨hm, k _ _ (Int.emod_nonneg _ (by omega)) (Int.emod_lt_of_pos _ hm) ⟨r.reverse, rfl, fun y hy => hL y (by simp at hy ⊢; exact .inl hy)⟩⟩
theorem rng_mem {lo : Int} {n : Nat} {d : D} (h : d ∈ rng lo n) : ∃ k : Nat, d = .int (lo + k) ∧ k < n := by
  unfold rng at h
  obtain ⟨k, hk, e⟩ := List.mem_map.mp h
  exact ⟨k, e.symm, List.mem_range.mp hk⟩
theorem bits31 {a : Int} (h0 : 0 ≤ a) (h : a < 2147483648) : iBits a ≤ 32 := small_bits (k := 32) (by omega)
/-- the deck: n numbers from each cell, none below 0 -/
theorem deck_wp {ns : List Int} {c e : Int} {Q : D → S → Prop} {E : D → S → Prop} (hc : 0 ≤ c ∧ c ≤ 1000) (he : 0 ≤ e ∧ e ≤ 1000) (hn : ns.length ≤ 63) (k : ∀ s, Dk s [] → Q (.ref 0) s) : wp (g_deck [.lst (ns.map .int), .int c, .int e] []) Q E := by
  refine wp_up ?_
  refine (wp_fn rfl).mpr ?_
  show wS (g_deck_m [some (.lst (ns.map .int)), some (.int c), some (.int e), none, none, none, none, none, none] _) _
  unfold g_deck_m
  simp only [wp_ok, wp_bad, wp_bind, wS_ok, wS_bad, wS_cons, wS_nil, wS_pass, wS_break, wS_cont, wS_never, wS_set, wS_expr, wS_ret, wS_retN, wS_if, wS_asg, wS_aug, wS_for, wp_lc, wp_m1, wp_m2, wp_mN, wp_aNil, wp_aCons, wp_mC, wp_var, wp_if, wp_and, wp_or, wp_not, wp_chain, wp_mt, wp_get, wp_isi, wp_fld, wp_sl, wp_oNone, wp_oSome, wp_tBool, wp_tTru, wp_tNot, wp_tAnd, wp_tOr, wp_tAll, wp_gSlot, wp_gsNil, wp_gsCons, wp_gTup, wp_gSub, wp_iAny, wp_iSeq, wp_iTup, wp_iStr, wp_iRange1, wp_iRange2, wp_iZip, wS_fld, wp_make, seqQ, rtQ, turnQ, List.getElem?_cons_zero, List.getElem?_cons_succ, List.set_cons_zero, List.set_cons_succ, wipeD, if_true, if_false, Bool.false_eq_true, Bool.true_eq_false, reduceIte]
  rw [w_new]
  refine ⟨by simp, ?_⟩
  simp only [List.length_nil, List.nil_append, w_len, w_add]
  refine ⟨by omega, ?_⟩
  let I : List D → Rho → S → Prop := fun xs ρ s => ∃ (seed : Int) (v5 v6 v7 v8 : Option D) (L : List Int), ρ = [some (.lst (ns.map .int)), some (.int c), some (.int e), some (.ref 0), some (.int seed), v5, v6, v7, v8] ∧ s = [.lst (L.map .int)] ∧ (0 ≤ seed ∧ seed < 2147483648) ∧
    (∀ x ∈ L, 0 ≤ x) ∧ (∀ d ∈ xs, ∃ j : Int, d = .int j ∧ 0 ≤ j ∧ j < 1000) ∧ L.length + 1000 * xs.length ≤ 1000 * 1000
  refine wS_forN I ?_ ?_ _ _ _ ⟨7 + (ns.length : Nat), none, none, none, none, [], by simp, by simp, by omega, by simp, ?_, ?_⟩
  · rintro ρ s ⟨seed, v5, v6, v7, v8, L, rfl, rfl, hs, hL, _, _⟩
    simp only [wp_ok, wp_bad, wp_bind, wS_ok, wS_bad, wS_cons, wS_nil, wS_pass, wS_break, wS_cont, wS_never, wS_set, wS_expr, wS_ret, wS_retN, wS_if, wS_asg, wS_aug, wS_for, wp_lc, wp_m1, wp_m2, wp_mN, wp_aNil, wp_aCons, wp_mC, wp_var, wp_if, wp_and, wp_or, wp_not, wp_chain, wp_mt, wp_get, wp_isi, wp_fld, wp_sl, wp_oNone, wp_oSome, wp_tBool, wp_tTru, wp_tNot, wp_tAnd, wp_tOr, wp_tAll, wp_gSlot, wp_gsNil, wp_gsCons, wp_gTup, wp_gSub, wp_iAny, wp_iSeq, wp_iTup, wp_iStr, wp_iRange1, wp_iRange2, wp_iZip, wS_fld, wp_make, seqQ, rtQ, turnQ, List.getElem?_cons_zero, List.getElem?_cons_succ, List.set_cons_zero, List.set_cons_succ, wipeD, if_true, if_false, Bool.false_eq_true, Bool.true_eq_false, reduceIte]
    refine ⟨hasTy_ref (xs := L.map .int) rfl, ?_⟩
    rw [w_reverse (xs := L.map .int) rfl]
    exact k _ ⟨L.reverse, by simp, fun x hx => hL x (by simpa using hx)⟩
  · rintro x xs ρ s ⟨seed, v5, v6, v7, v8, L, rfl, rfl, hs, hL, hx, hlen⟩
    obtain ⟨j, rfl, hj0, hj1⟩ := hx x List.mem_cons_self
    have hxs : ∀ d ∈ xs, ∃ j : Int, d = .int j ∧ 0 ≤ j ∧ j < 1000 := fun d hd => hx d (List.mem_cons_of_mem _ hd)
    simp only [List.length_cons] at hlen
    -- behind the choice of the cell
    have rest : ∀ cell : Int, wS (ssCons (sSet 7 (mN dAbs (aCons (mVar 6) aNil)))
        (sIf (tBool (m2 dGe (mVar 7) (m2 dPow (mC (.int 10)) (mC (.int 30)))))
        (sFor (iRange1 (mVar 2)) (gSlot 8)
        (ssCons (sExpr (mMt "list" dAppend (mVar 3) (aCons (m2 dMod (mN dInt (aCons (mVar 7) aNil)) (mC (.int 1000003))) aNil)))
        (sSet 7 (m2 dFdiv (mVar 7) (mC (.int 1000003))))))
        (ssCons (sSet 4 (m2 dMod (mN dInt (aCons (m2 dAdd (m2 dAdd (m2 dAdd (m2 dMul (mVar 4) (mC (.int 48271))) (m2 dMul (mC (.int 2)) (mVar 7))) (mN dInt (aCons (m2 dLt (mVar 6) (mC (.int 0))) aNil))) (mVar 5)) aNil)) (mC (.int 2147483647))))
        (sFor (iRange1 (mVar 2)) (gSlot 8)
        (ssCons (sSet 4 (m2 dMod (mN dInt (aCons (m2 dAdd (m2 dAdd (m2 dMul (mVar 4) (mC (.int 69621))) (mVar 8)) (mC (.int 1))) aNil)) (mC (.int 2147483629))))
        (sExpr (mMt "list" dAppend (mVar 3) (aCons (m2 dMod (mN dInt (aCons (m2 dFdiv (mVar 4) (mC (.int 5))) aNil)) (mC (.int 1000003))) aNil)))))))
        [some (.lst (ns.map .int)), some (.int c), some (.int e), some (.ref 0), some (.int seed), some (.int j), some (.int cell), v7, v8] [.lst (L.map .int)]) (turnQ (I xs) fun c s => seqQ (ssCons (sExpr (mMt "list" dReverse (mVar 3) aNil)) (sRet (mVar 3))) (rtQ Q) (fun _ _ _ => False) c s) := by
      intro cell
      simp only [wp_ok, wp_bad, wp_bind, wS_ok, wS_bad, wS_cons, wS_nil, wS_pass, wS_break, wS_cont, wS_never, wS_set, wS_expr, wS_ret, wS_retN, wS_if, wS_asg, wS_aug, wS_for, wp_lc, wp_m1, wp_m2, wp_mN, wp_aNil, wp_aCons, wp_mC, wp_var, wp_if, wp_and, wp_or, wp_not, wp_chain, wp_mt, wp_get, wp_isi, wp_fld, wp_sl, wp_oNone, wp_oSome, wp_tBool, wp_tTru, wp_tNot, wp_tAnd, wp_tOr, wp_tAll, wp_gSlot, wp_gsNil, wp_gsCons, wp_gTup, wp_gSub, wp_iAny, wp_iSeq, wp_iTup, wp_iStr, wp_iRange1, wp_iRange2, wp_iZip, wS_fld, wp_make, seqQ, rtQ, turnQ, List.getElem?_cons_zero, List.getElem?_cons_succ, List.set_cons_zero, List.set_cons_succ, wipeD, if_true, if_false, Bool.false_eq_true, Bool.true_eq_false, reduceIte]
      rw [w_abs]
      simp only [w_pow, w_ge]
      refine ⟨by decide, ?_⟩
      generalize hab : (if cell < 0 then -cell else cell) = ab
      have h10 : ((10 : Int) ^ (30 : Int).toNat) = 1000000000000000000000000000000 := by decide
      have hab0 : 0 ≤ ab := by rw [← hab]; split <;> omega
      rw [h10]
      split
      · refine ⟨by omega, ?_⟩
        let J : List D → Rho → S → Prop := fun ys ρ s => ∃ (v7 : Int) (v8 : Option D) (L' : List Int), ρ = [some (.lst (ns.map .int)), some (.int c), some (.int e), some (.ref 0), some (.int seed), some (.int j), some (.int cell), some (.int v7), v8] ∧ s = [.lst (L'.map .int)] ∧ (∀ x ∈ L', 0 ≤ x) ∧ L'.length + ys.length ≤ L.length + 1000
        refine wS_forN J ?_ ?_ _ _ _ ⟨ab, v8, L, by simp, rfl, hL, by unfold rng; simp; omega⟩
        · rintro ρ s ⟨v7, v8, L', rfl, rfl, hL', hlen'⟩
          simp only [List.length_nil] at hlen'
          exact ⟨seed, _, _, _, _, L', rfl, rfl, hs, hL', hxs, by omega⟩
        · rintro y ys ρ s ⟨v7, v8, L', rfl, rfl, hL', hlen'⟩
          simp only [List.length_cons] at hlen'
          simp only [wp_ok, wp_bad, wp_bind, wS_ok, wS_bad, wS_cons, wS_nil, wS_pass, wS_break, wS_cont, wS_never, wS_set, wS_expr, wS_ret, wS_retN, wS_if, wS_asg, wS_aug, wS_for, wp_lc, wp_m1, wp_m2, wp_mN, wp_aNil, wp_aCons, wp_mC, wp_var, wp_if, wp_and, wp_or, wp_not, wp_chain, wp_mt, wp_get, wp_isi, wp_fld, wp_sl, wp_oNone, wp_oSome, wp_tBool, wp_tTru, wp_tNot, wp_tAnd, wp_tOr, wp_tAll, wp_gSlot, wp_gsNil, wp_gsCons, wp_gTup, wp_gSub, wp_iAny, wp_iSeq, wp_iTup, wp_iStr, wp_iRange1, wp_iRange2, wp_iZip, wS_fld, wp_make, seqQ, rtQ, turnQ, List.getElem?_cons_zero, List.getElem?_cons_succ, List.set_cons_zero, List.set_cons_succ, wipeD, if_true, if_false, Bool.false_eq_true, Bool.true_eq_false, reduceIte]
          refine ⟨hasTy_ref (xs := L'.map .int) rfl, ?_⟩
          simp only [w_int, w_mod, w_fdiv]
          refine ⟨by decide, ?_⟩
          rw [w_append (xs := L'.map .int) rfl]
          refine ⟨by simp only [List.length_map]; show L'.length < 16777216; omega, ⟨by decide, by decide⟩, ?_⟩
          exact ⟨_, _, L' ++ [v7 % 1000003], rfl, by simp, fun x hx => by
            rcases List.mem_append.mp hx with hx | hx
            · exact hL' x hx
            · rw [List.mem_singleton.mp hx]; exact Int.emod_nonneg _ (by decide), by simp only [List.length_append, List.length_singleton]; omega⟩
      · rename_i hge
        have hab1 : ab < 1000000000000000000000000000000 := by
          have : ¬ (ab ≥ 1000000000000000000000000000000) := by simpa using hge
          omega
        simp only [w_mul, w_lt, w_intB, w_add, w_int, w_mod]
        refine ⟨?_, ?_, by decide, by omega, ?_⟩
        · have := bits31 hs.1 hs.2
          have h2 : iBits 48271 ≤ 32 := by decide
          omega
        · have h1 : iBits ab ≤ 100 := small_bits (k := 100) (by omega)
          have h2 : iBits 2 ≤ 32 := by decide
          omega
        generalize (seed * 48271 + 2 * ab + (if decide (cell < 0) = true then (1 : Int) else 0) + j) = z
        let J : List D → Rho → S → Prop := fun ys ρ s => ∃ (seed : Int) (v8 : Option D) (L' : List Int), ρ = [some (.lst (ns.map .int)), some (.int c), some (.int e), some (.ref 0), some (.int seed), some (.int j), some (.int cell), some (.int ab), v8] ∧ s = [.lst (L'.map .int)] ∧ (0 ≤ seed ∧ seed < 2147483648) ∧ (∀ x ∈ L', 0 ≤ x) ∧ (∀ d ∈ ys, ∃ j : Int, d = .int j ∧ 0 ≤ j) ∧ L'.length + ys.length ≤ L.length + 1000
        have hz1 : 0 ≤ z % 2147483647 := Int.emod_nonneg _ (by decide)
        have hz2 : z % 2147483647 < 2147483647 := Int.emod_lt_of_pos _ (by decide)
        refine wS_forN J ?_ ?_ _ _ _ ⟨z % 2147483647, v8, L, by simp, rfl, ⟨hz1, by omega⟩, hL, ?_, by unfold rng; simp; omega⟩
        · rintro ρ s ⟨seed, v8, L', rfl, rfl, hs', hL', _, hlen'⟩
          simp only [List.length_nil] at hlen'
          exact ⟨seed, _, _, _, _, L', rfl, rfl, hs', hL', hxs, by omega⟩
        · intro y ys ρ s h
          obtain ⟨seed', v8, L', e1, e2, hs', hL', hys, hlen'⟩ := h
          subst e1 e2
          simp only [List.length_cons] at hlen'
          obtain ⟨q, rfl, hq⟩ := hys y List.mem_cons_self
          simp only [wp_ok, wp_bad, wp_bind, wS_ok, wS_bad, wS_cons, wS_nil, wS_pass, wS_break, wS_cont, wS_never, wS_set, wS_expr, wS_ret, wS_retN, wS_if, wS_asg, wS_aug, wS_for, wp_lc, wp_m1, wp_m2, wp_mN, wp_aNil, wp_aCons, wp_mC, wp_var, wp_if, wp_and, wp_or, wp_not, wp_chain, wp_mt, wp_get, wp_isi, wp_fld, wp_sl, wp_oNone, wp_oSome, wp_tBool, wp_tTru, wp_tNot, wp_tAnd, wp_tOr, wp_tAll, wp_gSlot, wp_gsNil, wp_gsCons, wp_gTup, wp_gSub, wp_iAny, wp_iSeq, wp_iTup, wp_iStr, wp_iRange1, wp_iRange2, wp_iZip, wS_fld, wp_make, seqQ, rtQ, turnQ, List.getElem?_cons_zero, List.getElem?_cons_succ, List.set_cons_zero, List.set_cons_succ, wipeD, if_true, if_false, Bool.false_eq_true, Bool.true_eq_false, reduceIte]
          simp only [w_mul, w_add, w_int, w_mod, w_fdiv]
          refine ⟨?_, by decide, hasTy_ref (xs := L'.map .int) rfl, ⟨by decide, by decide⟩, by decide, ?_⟩
          · have := bits31 hs'.1 hs'.2
            have h2 : iBits 69621 ≤ 32 := by decide
            omega
          rw [w_append (xs := L'.map .int) rfl]
          refine ⟨by simp only [List.length_map]; show L'.length < 16777216; omega, ?_⟩
          have hm1 : 0 ≤ (seed' * 69621 + q + 1) % 2147483629 := Int.emod_nonneg _ (by decide)
          have hm2 : (seed' * 69621 + q + 1) % 2147483629 < 2147483629 := Int.emod_lt_of_pos _ (by decide)
          exact ⟨_, _, L' ++ [(seed' * 69621 + q + 1) % 2147483629 / 5 % 1000003], rfl, by simp, ⟨hm1, by omega⟩, fun x hx => by
            rcases List.mem_append.mp hx with hx | hx
            · exact hL' x hx
            · rw [List.mem_singleton.mp hx]; exact Int.emod_nonneg _ (by decide), fun d hd => hys d (List.mem_cons_of_mem _ hd), by simp only [List.length_append, List.length_singleton]; omega⟩
        · intro d hd
          obtain ⟨k, rfl, _⟩ := rng_mem hd
          exact ⟨_, rfl, by omega⟩
    rw [wp_gSlot]
    simp only [List.set_cons_zero, List.set_cons_succ]
    rw [wS_cons, wS_set, wp_mC]
    show wS (ssCons (sIf _ _ _) _ _ _) _
    rw [wS_cons, wS_if]
    simp only [List.set_cons_zero, List.set_cons_succ, wp_tBool, wp_m2, wp_mN, wp_aCons, wp_aNil, wp_var, List.getElem?_cons_zero, List.getElem?_cons_succ, w_len, w_lt]
    split
    · rename_i hlt
      have hlt' : j < (ns.map D.int).length := by simpa using hlt
      obtain ⟨d, hd, ei, _⟩ := atI_mem (xs := ns.map D.int) hj0 hlt'
      obtain ⟨cell, _, rfl⟩ := List.mem_map.mp hd
      rw [wS_set, wp_m2]
      simp only [wp_var, List.getElem?_cons_zero, List.getElem?_cons_succ]
      rw [w_ix, ei]
      exact rest cell
    · rw [wS_nil]
      exact rest 0
  · intro d hd
    obtain ⟨k, rfl, hk⟩ := rng_mem hd
    exact ⟨_, rfl, by omega, by omega⟩
  · unfold rng
    simp
    omega
/-! what a datum is told as -/
theorem plain_unf {k : Nat} {d : D} {s : S} {Q : D → S → Prop} : wp (g_plain (k + 1) [d] s) Q = wS (g_plain_m (g_plain k) [some d, none] s) (rtQ Q) := wp_fn (n := 1) (tot := 2) (m := g_plain_m (g_plain k)) rfl
def plainOk : Nat → D → Bool
  | 0, _ => false
  | _ + 1, .non => true
  | _ + 1, .bl _ => true
  | _ + 1, .int _ => true
  | _ + 1, .str x => PyData.strOk x
  | k + 1, .tup xs => decide (xs.length < sizeLine) && xs.all (plainOk k)
  | k + 1, .lst xs => decide (xs.length < sizeLine) && xs.all (plainOk k)
  | _, _ => false
/-- told, and the same at every store -/
def Told (k n : Nat) (d : D) : Prop := ∃ d', (∀ s, g_plain k [d] s = .ok d' s) ∧ ∀ s, ∃ p, toPy s n d' = some p
theorem told_map {G : List D → S → R D} {n : Nat} {all : List D} : ∀ {xs : List D} {v : Option D}, (∀ x ∈ xs, ∃ d', (∀ s, G [x] s = .ok d' s) ∧ ∀ s, ∃ p, toPy s n d' = some p) →
    ∃ ys, ys.length = xs.length ∧ (∀ (o : Option D) s, mapL none all (gSlot 1) tAll (mN G (aCons (mVar 1) aNil)) xs [v, o] s = .ok ys s) ∧ ∀ s, ∃ ps, optAll (toPy s n) ys = some ps
  | [], v, _ => ⟨[], rfl, fun o s => by unfold mapL; exact if_pos trivial, fun s => ⟨[], rfl⟩⟩
  | x :: xs, v, h => by
    obtain ⟨d, h1, h2⟩ := h x List.mem_cons_self
    obtain ⟨ys, e1, h3, h4⟩ := told_map (G := G) (n := n) (all := all) (xs := xs) (v := v) fun y hy => h y (List.mem_cons_of_mem _ hy)
    refine ⟨d :: ys, by simp [e1], fun o s => ?_, fun s => ?_⟩
    · unfold mapL
      rw [if_pos (show gOk none all s from trivial)]
      have e2 : mN G (aCons (mVar 1) aNil) [v, some x] s = .ok d s := by
        show R.bind (R.bind (R.ok x s) _) _ = _
        simp only [R.bind, aNil]
        exact h1 s
      simp only [gSlot, List.set_cons_succ, List.set_cons_zero, tAll, e2, h3 o s]
    · obtain ⟨p, hp⟩ := h2 s
      obtain ⟨ps, hps⟩ := h4 s
      exact ⟨p :: ps, by simp only [optAll, hp, hps]⟩
theorem told_seq {k n : Nat} {xs : List D} {b : Bool} (hl : xs.length < sizeLine) (h : ∀ x ∈ xs, Told k (n + 1) x) {d : D} (hd : d = .tup xs ∧ b = false ∨ d = .lst xs ∧ b = true) : Told (k + 1) (n + 2) d := by
  obtain ⟨ys, e1, h3, h4⟩ := told_map (G := g_plain k) (n := n + 1) (all := xs) (xs := xs) (v := some d) h
  refine ⟨.lst (.bl b :: ys), fun s => ?_, fun s => ?_⟩
  · have hw : wp (g_plain (k + 1) [d] s) fun d' s' => d' = .lst (.bl b :: ys) ∧ s' = s := by
      rw [plain_unf]
      unfold g_plain_m
      have hlen : (1 : Nat) + ys.length ≤ sizeLine := by rw [e1]; omega
      rcases hd with ⟨rfl, rfl⟩ | ⟨rfl, rfl⟩
      · simp only [wp_ok, wp_bad, wp_bind, wS_ok, wS_bad, wS_cons, wS_nil, wS_pass, wS_break, wS_cont, wS_never, wS_set, wS_expr, wS_ret, wS_retN, wS_if, wS_asg, wS_aug, wS_for, wp_lc, wp_m1, wp_m2, wp_mN, wp_aNil, wp_aCons, wp_mC, wp_var, wp_if, wp_and, wp_or, wp_not, wp_chain, wp_mt, wp_get, wp_isi, wp_fld, wp_sl, wp_oNone, wp_oSome, wp_tBool, wp_tTru, wp_tNot, wp_tAnd, wp_tOr, wp_tAll, wp_gSlot, wp_gsNil, wp_gsCons, wp_gTup, wp_gSub, wp_iAny, wp_iSeq, wp_iTup, wp_iStr, wp_iRange1, wp_iRange2, wp_iZip, wS_fld, wp_make, seqQ, rtQ, turnQ, List.getElem?_cons_zero, List.getElem?_cons_succ, List.set_cons_zero, List.set_cons_succ, wipeD, if_true, if_false, Bool.false_eq_true, Bool.true_eq_false, reduceIte]
        simp only [tyName, List.any_cons, List.any_nil, isSub, dTru, w_lst]
        refine (if_pos (by decide)).mpr ?_
        refine ⟨by decide, ?_⟩
        rw [h3, wp_ok]
        refine ⟨Nat.le_of_lt hl, ?_⟩
        rw [w_addL]
        exact ⟨hlen, rfl, rfl⟩
      · simp only [wp_ok, wp_bad, wp_bind, wS_ok, wS_bad, wS_cons, wS_nil, wS_pass, wS_break, wS_cont, wS_never, wS_set, wS_expr, wS_ret, wS_retN, wS_if, wS_asg, wS_aug, wS_for, wp_lc, wp_m1, wp_m2, wp_mN, wp_aNil, wp_aCons, wp_mC, wp_var, wp_if, wp_and, wp_or, wp_not, wp_chain, wp_mt, wp_get, wp_isi, wp_fld, wp_sl, wp_oNone, wp_oSome, wp_tBool, wp_tTru, wp_tNot, wp_tAnd, wp_tOr, wp_tAll, wp_gSlot, wp_gsNil, wp_gsCons, wp_gTup, wp_gSub, wp_iAny, wp_iSeq, wp_iTup, wp_iStr, wp_iRange1, wp_iRange2, wp_iZip, wS_fld, wp_make, seqQ, rtQ, turnQ, List.getElem?_cons_zero, List.getElem?_cons_succ, List.set_cons_zero, List.set_cons_succ, wipeD, if_true, if_false, Bool.false_eq_true, Bool.true_eq_false, reduceIte]
        simp only [tyName, List.any_cons, List.any_nil, isSub, dTru, w_lst]
        refine (if_pos (by decide)).mpr ?_
        refine ⟨by decide, ?_⟩
        rw [h3, wp_ok]
        refine ⟨Nat.le_of_lt hl, ?_⟩
        rw [w_addL]
        exact ⟨hlen, rfl, rfl⟩
    obtain ⟨d', s', e, rfl, rfl⟩ := wp_ex hw
    exact e
  · obtain ⟨ps, hps⟩ := h4 s
    refine ⟨.list (.bool b :: ps), ?_⟩
    simp only [toPy, optAll, hps]
    rfl
theorem told_base {k n : Nat} {d d' : D} (h : ∀ s, g_plain (k + 1) [d] s = .ok d' s) (h2 : ∀ s, ∃ p, toPy s n d' = some p) : Told (k + 1) n d := ⟨d', h, h2⟩
theorem told_wp {k : Nat} {d d' : D} (h : ∀ s, wp (g_plain k [d] s) fun e s' => e = d' ∧ s' = s) : ∀ s, g_plain k [d] s = .ok d' s := fun s => by
  obtain ⟨e, s', h1, rfl, rfl⟩ := wp_ex (h s)
  exact h1
theorem told : ∀ (k : Nat) (d : D), plainOk k d = true → Told k (k + 2) d
  | 0, _, h => by simp [plainOk] at h
  | k + 1, d, h => by
    have seq : ∀ xs : List D, (decide (xs.length < sizeLine) && xs.all (plainOk k)) = true → xs.length < sizeLine ∧ ∀ x ∈ xs, Told k (k + 1 + 1) x := fun xs hx => by
      rw [Bool.and_eq_true] at hx
      exact ⟨of_decide_eq_true hx.1, fun x hm => told k x (List.all_eq_true.mp hx.2 x hm)⟩
    cases d with
    | tup xs =>
      obtain ⟨h1, h2⟩ := seq xs (by simpa [plainOk] using h)
      exact told_seq h1 h2 (.inl ⟨rfl, rfl⟩)
    | lst xs =>
      obtain ⟨h1, h2⟩ := seq xs (by simpa [plainOk] using h)
      exact told_seq h1 h2 (.inr ⟨rfl, rfl⟩)
    | non =>
      refine told_base (d' := .str "None") (told_wp fun s => ?_) fun s => ⟨.str "None", by simp only [toPy]; exact if_pos (by decide +kernel)⟩
      rw [plain_unf]
      unfold g_plain_m
      simp only [wp_ok, wp_bad, wp_bind, wS_ok, wS_bad, wS_cons, wS_nil, wS_pass, wS_break, wS_cont, wS_never, wS_set, wS_expr, wS_ret, wS_retN, wS_if, wS_asg, wS_aug, wS_for, wp_lc, wp_m1, wp_m2, wp_mN, wp_aNil, wp_aCons, wp_mC, wp_var, wp_if, wp_and, wp_or, wp_not, wp_chain, wp_mt, wp_get, wp_isi, wp_fld, wp_sl, wp_oNone, wp_oSome, wp_tBool, wp_tTru, wp_tNot, wp_tAnd, wp_tOr, wp_tAll, wp_gSlot, wp_gsNil, wp_gsCons, wp_gTup, wp_gSub, wp_iAny, wp_iSeq, wp_iTup, wp_iStr, wp_iRange1, wp_iRange2, wp_iZip, wS_fld, wp_make, seqQ, rtQ, turnQ, List.getElem?_cons_zero, List.getElem?_cons_succ, List.set_cons_zero, List.set_cons_succ, wipeD, if_true, if_false, Bool.false_eq_true, Bool.true_eq_false, reduceIte]
      simp only [tyName, List.any_cons, List.any_nil, isSub, dTru, w_lst, w_isN, w_isnotN, w_isNB, isNonD, w_intB, w_add]
      refine (if_neg (by decide)).mpr ?_
      simp only [wp_ok, wp_bad, wp_bind, wS_ok, wS_bad, wS_cons, wS_nil, wS_pass, wS_break, wS_cont, wS_never, wS_set, wS_expr, wS_ret, wS_retN, wS_if, wS_asg, wS_aug, wS_for, wp_lc, wp_m1, wp_m2, wp_mN, wp_aNil, wp_aCons, wp_mC, wp_var, wp_if, wp_and, wp_or, wp_not, wp_chain, wp_mt, wp_get, wp_isi, wp_fld, wp_sl, wp_oNone, wp_oSome, wp_tBool, wp_tTru, wp_tNot, wp_tAnd, wp_tOr, wp_tAll, wp_gSlot, wp_gsNil, wp_gsCons, wp_gTup, wp_gSub, wp_iAny, wp_iSeq, wp_iTup, wp_iStr, wp_iRange1, wp_iRange2, wp_iZip, wS_fld, wp_make, seqQ, rtQ, turnQ, List.getElem?_cons_zero, List.getElem?_cons_succ, List.set_cons_zero, List.set_cons_succ, wipeD, if_true, if_false, Bool.false_eq_true, Bool.true_eq_false, reduceIte]
      refine ⟨by decide, ?_⟩
      rw [w_ix]
      exact ⟨rfl, rfl⟩
    | bl b =>
      refine told_base (d' := .str (if b then "True" else "False")) (told_wp fun s => ?_) fun s => by cases b <;> exact ⟨_, if_pos (by decide +kernel)⟩
      rw [plain_unf]
      unfold g_plain_m
      simp only [wp_ok, wp_bad, wp_bind, wS_ok, wS_bad, wS_cons, wS_nil, wS_pass, wS_break, wS_cont, wS_never, wS_set, wS_expr, wS_ret, wS_retN, wS_if, wS_asg, wS_aug, wS_for, wp_lc, wp_m1, wp_m2, wp_mN, wp_aNil, wp_aCons, wp_mC, wp_var, wp_if, wp_and, wp_or, wp_not, wp_chain, wp_mt, wp_get, wp_isi, wp_fld, wp_sl, wp_oNone, wp_oSome, wp_tBool, wp_tTru, wp_tNot, wp_tAnd, wp_tOr, wp_tAll, wp_gSlot, wp_gsNil, wp_gsCons, wp_gTup, wp_gSub, wp_iAny, wp_iSeq, wp_iTup, wp_iStr, wp_iRange1, wp_iRange2, wp_iZip, wS_fld, wp_make, seqQ, rtQ, turnQ, List.getElem?_cons_zero, List.getElem?_cons_succ, List.set_cons_zero, List.set_cons_succ, wipeD, if_true, if_false, Bool.false_eq_true, Bool.true_eq_false, reduceIte]
      simp only [tyName, List.any_cons, List.any_nil, isSub, dTru, w_lst, w_isN, w_isnotN, w_isB, isNonD, w_intB, w_add]
      refine (if_neg (by decide)).mpr ?_
      simp only [wp_ok, wp_bad, wp_bind, wS_ok, wS_bad, wS_cons, wS_nil, wS_pass, wS_break, wS_cont, wS_never, wS_set, wS_expr, wS_ret, wS_retN, wS_if, wS_asg, wS_aug, wS_for, wp_lc, wp_m1, wp_m2, wp_mN, wp_aNil, wp_aCons, wp_mC, wp_var, wp_if, wp_and, wp_or, wp_not, wp_chain, wp_mt, wp_get, wp_isi, wp_fld, wp_sl, wp_oNone, wp_oSome, wp_tBool, wp_tTru, wp_tNot, wp_tAnd, wp_tOr, wp_tAll, wp_gSlot, wp_gsNil, wp_gsCons, wp_gTup, wp_gSub, wp_iAny, wp_iSeq, wp_iTup, wp_iStr, wp_iRange1, wp_iRange2, wp_iZip, wS_fld, wp_make, seqQ, rtQ, turnQ, List.getElem?_cons_zero, List.getElem?_cons_succ, List.set_cons_zero, List.set_cons_succ, wipeD, if_true, if_false, Bool.false_eq_true, Bool.true_eq_false, reduceIte]
      refine (if_pos (by decide)).mpr ?_
      refine ⟨by decide, ?_⟩
      cases b <;> (rw [w_ix]; exact ⟨rfl, rfl⟩)
    | int i =>
      refine told_base (d' := .lst [.bl false, .int i]) (told_wp fun s => ?_) fun s => ⟨.list [.bool false, .int i], rfl⟩
      rw [plain_unf]
      unfold g_plain_m
      simp only [wp_ok, wp_bad, wp_bind, wS_ok, wS_bad, wS_cons, wS_nil, wS_pass, wS_break, wS_cont, wS_never, wS_set, wS_expr, wS_ret, wS_retN, wS_if, wS_asg, wS_aug, wS_for, wp_lc, wp_m1, wp_m2, wp_mN, wp_aNil, wp_aCons, wp_mC, wp_var, wp_if, wp_and, wp_or, wp_not, wp_chain, wp_mt, wp_get, wp_isi, wp_fld, wp_sl, wp_oNone, wp_oSome, wp_tBool, wp_tTru, wp_tNot, wp_tAnd, wp_tOr, wp_tAll, wp_gSlot, wp_gsNil, wp_gsCons, wp_gTup, wp_gSub, wp_iAny, wp_iSeq, wp_iTup, wp_iStr, wp_iRange1, wp_iRange2, wp_iZip, wS_fld, wp_make, seqQ, rtQ, turnQ, List.getElem?_cons_zero, List.getElem?_cons_succ, List.set_cons_zero, List.set_cons_succ, wipeD, if_true, if_false, Bool.false_eq_true, Bool.true_eq_false, reduceIte]
      simp only [tyName, List.any_cons, List.any_nil, isSub, dTru, w_lst, w_isN, w_isnotN, isNonD, w_intB, w_add]
      refine (if_neg (by decide)).mpr ?_
      simp only [wp_ok, wp_bad, wp_bind, wS_ok, wS_bad, wS_cons, wS_nil, wS_pass, wS_break, wS_cont, wS_never, wS_set, wS_expr, wS_ret, wS_retN, wS_if, wS_asg, wS_aug, wS_for, wp_lc, wp_m1, wp_m2, wp_mN, wp_aNil, wp_aCons, wp_mC, wp_var, wp_if, wp_and, wp_or, wp_not, wp_chain, wp_mt, wp_get, wp_isi, wp_fld, wp_sl, wp_oNone, wp_oSome, wp_tBool, wp_tTru, wp_tNot, wp_tAnd, wp_tOr, wp_tAll, wp_gSlot, wp_gsNil, wp_gsCons, wp_gTup, wp_gSub, wp_iAny, wp_iSeq, wp_iTup, wp_iStr, wp_iRange1, wp_iRange2, wp_iZip, wS_fld, wp_make, seqQ, rtQ, turnQ, List.getElem?_cons_zero, List.getElem?_cons_succ, List.set_cons_zero, List.set_cons_succ, wipeD, if_true, if_false, Bool.false_eq_true, Bool.true_eq_false, reduceIte]
      refine (if_neg (by decide)).mpr ?_
      refine (if_pos (by decide)).mpr ?_
      refine ⟨by show 2 ≤ sizeLine; decide, ?_⟩
      simp
    | str x =>
      have hx : PyData.strOk x = true := by simpa [plainOk] using h
      refine told_base (d' := .lst [.bl true, .str x]) (told_wp fun s => ?_) fun s => ⟨.list [.bool true, .str x], by simp only [toPy, optAll, hx]; rfl⟩
      rw [plain_unf]
      unfold g_plain_m
      simp only [wp_ok, wp_bad, wp_bind, wS_ok, wS_bad, wS_cons, wS_nil, wS_pass, wS_break, wS_cont, wS_never, wS_set, wS_expr, wS_ret, wS_retN, wS_if, wS_asg, wS_aug, wS_for, wp_lc, wp_m1, wp_m2, wp_mN, wp_aNil, wp_aCons, wp_mC, wp_var, wp_if, wp_and, wp_or, wp_not, wp_chain, wp_mt, wp_get, wp_isi, wp_fld, wp_sl, wp_oNone, wp_oSome, wp_tBool, wp_tTru, wp_tNot, wp_tAnd, wp_tOr, wp_tAll, wp_gSlot, wp_gsNil, wp_gsCons, wp_gTup, wp_gSub, wp_iAny, wp_iSeq, wp_iTup, wp_iStr, wp_iRange1, wp_iRange2, wp_iZip, wS_fld, wp_make, seqQ, rtQ, turnQ, List.getElem?_cons_zero, List.getElem?_cons_succ, List.set_cons_zero, List.set_cons_succ, wipeD, if_true, if_false, Bool.false_eq_true, Bool.true_eq_false, reduceIte]
      simp only [tyName, List.any_cons, List.any_nil, isSub, dTru, w_lst, w_isN, w_isnotN, isNonD, w_intB, w_add]
      refine (if_neg (by decide)).mpr ?_
      simp only [wp_ok, wp_bad, wp_bind, wS_ok, wS_bad, wS_cons, wS_nil, wS_pass, wS_break, wS_cont, wS_never, wS_set, wS_expr, wS_ret, wS_retN, wS_if, wS_asg, wS_aug, wS_for, wp_lc, wp_m1, wp_m2, wp_mN, wp_aNil, wp_aCons, wp_mC, wp_var, wp_if, wp_and, wp_or, wp_not, wp_chain, wp_mt, wp_get, wp_isi, wp_fld, wp_sl, wp_oNone, wp_oSome, wp_tBool, wp_tTru, wp_tNot, wp_tAnd, wp_tOr, wp_tAll, wp_gSlot, wp_gsNil, wp_gsCons, wp_gTup, wp_gSub, wp_iAny, wp_iSeq, wp_iTup, wp_iStr, wp_iRange1, wp_iRange2, wp_iZip, wS_fld, wp_make, seqQ, rtQ, turnQ, List.getElem?_cons_zero, List.getElem?_cons_succ, List.set_cons_zero, List.set_cons_succ, wipeD, if_true, if_false, Bool.false_eq_true, Bool.true_eq_false, reduceIte]
      refine (if_neg (by decide)).mpr ?_
      refine (if_pos (by decide)).mpr ?_
      refine ⟨by show 2 ≤ sizeLine; decide, ?_⟩
      simp
    | _ => simp [plainOk] at h
theorem optAll_up {f g : D → Option PyData} (h : ∀ d p, f d = some p → g d = some p) : ∀ {xs : List D} {ps : List PyData}, optAll f xs = some ps → optAll g xs = some ps
  | [], ps, e => e
  | x :: xs, ps, e => by
    simp only [optAll] at e ⊢
    cases h1 : f x with
    | none => rw [h1] at e; cases e
    | some p =>
      cases h2 : optAll f xs with
      | none => rw [h1, h2] at e; cases e
      | some qs => rw [h1, h2] at e; rw [h _ _ h1, optAll_up h h2]; exact e
theorem toPy_up {s : S} : ∀ (k : Nat) (d : D) (p : PyData), toPy s k d = some p → toPy s (k + 1) d = some p
  | 0, _, _, e => by simp [toPy] at e
  | k + 1, d, p, e => by
    have up := fun {xs ps} => optAll_up (xs := xs) (ps := ps) (toPy_up (s := s) k)
    have seq : ∀ {c : List PyData → PyData} {xs : List D}, (optAll (toPy s k) xs).map c = some p → (optAll (toPy s (k + 1)) xs).map c = some p := fun {c xs} h => by
      cases h1 : optAll (toPy s k) xs with
      | none => rw [h1] at h; cases h
      | some ps => rw [up h1, ← h, h1]
    cases d with
    | tup xs => exact seq (show (optAll (toPy s k) xs).map .tuple = some p from e)
    | lst xs => exact seq (show (optAll (toPy s k) xs).map .list = some p from e)
    | ref n =>
      have e1 : (match s[n]? with | some (O.lst xs) => (optAll (toPy s k) xs).map PyData.list | _ => none) = some p := e
      show (match s[n]? with | some (O.lst xs) => (optAll (toPy s (k + 1)) xs).map PyData.list | _ => none) = some p
      cases h1 : s[n]? with
      | none => rw [h1] at e1; cases e1
      | some o =>
        rw [h1] at e1
        cases o with
        | ins c fs => cases e1
        | dK kvs => cases e1
        | lst xs => exact seq e1
    | _ => exact e
theorem toPy_le {s : S} {j k : Nat} (h : j ≤ k) {d : D} {p : PyData} (e : toPy s j d = some p) : toPy s k d = some p := by
  induction h with
  | refl => exact e
  | step _ ih => exact toPy_up _ _ _ ih
theorem told60 {k : Nat} {d : D} (h : plainOk k d = true) (hk : k ≤ 58) : ∃ d', (∀ s, g_plain k [d] s = .ok d' s) ∧ ∀ s, ∃ p, toPy s 60 d' = some p := by
  obtain ⟨d', h1, h2⟩ := told k d h
  exact ⟨d', h1, fun s => let ⟨p, hp⟩ := h2 s; ⟨p, toPy_le (by omega) hp⟩⟩
theorem w_eq_self {d : D} {s : S} {Q : D → S → Prop} {E : D → S → Prop} (h : ∀ s, ∃ p, toPy s 60 d = some p) : wp (dEq d d s) Q E = Q (.bl true) s := by
  obtain ⟨p, hp⟩ := h s
  rw [eq_self hp, wp_ok]
theorem w_ne_self {d : D} {s : S} {Q : D → S → Prop} {E : D → S → Prop} (h : ∀ s, ∃ p, toPy s 60 d = some p) : wp (dNe d d s) Q E = Q (.bl false) s := by
  obtain ⟨p, hp⟩ := h s
  rw [ne_self hp, wp_ok]
end
end Pm
namespace Pm
open PySem PySem.Spec PyProof.Rows L2

/-! ### texts as lists of signs -/
def tx (l : List Char) : Str := ⟨(l.map Char.toNat).toArray⟩
theorem ofS (x : String) : Str.ofString x = tx x.toList := Str.ofString_eq_toList x
theorem toNat_inj {a b : Char} (h : a.toNat = b.toNat) : a = b := Char.ext (UInt32.toNat.inj h)
theorem tx_inj {a b : List Char} (h : tx a = tx b) : a = b := by
  have e : a.map Char.toNat = b.map Char.toNat := by
    have := congrArg (fun z : Str => z.cps.toList) h
    simpa [tx] using this
  exact List.map_inj_right (fun a b h => toNat_inj h) |>.mp e
theorem tx_beq (a b : List Char) : (tx a == tx b) = decide (a = b) := by
  rw [Bool.eq_iff_iff, beq_iff_eq, decide_eq_true_eq]
  exact ⟨tx_inj, congrArg tx⟩
theorem tx_ok (l : List Char) : PyData.strOk (tx l) = true := by
  unfold PyData.strOk tx
  rw [← Array.all_toList, List.all_eq_true]
  intro c hc
  obtain ⟨d, _, rfl⟩ := List.mem_map.mp (by simpa using hc)
  have h := d.valid
  have : d.toNat < 0x110000 := by
    rcases h with h | h
    · exact Nat.lt_trans h (by decide)
    · exact h.2
  exact decide_eq_true this
theorem tx_len (l : List Char) : (tx l).length = l.length := by simp [tx, Str.length]
theorem tx_app (a b : List Char) : tx a ++ tx b = tx (a ++ b) := by
  show Str.mk _ = _
  simp [tx]
theorem tx_nil : tx [] = Str.ofString "" := by rw [ofS]; rfl
theorem tx_emp : tx [] = Str.empty := rfl
/-- the signs of a text -/
theorem tx_chars (l : List Char) : (tx l).cps.toList.map (fun c => D.str ⟨#[c]⟩) = l.map fun c => D.str (tx [c]) := by
  simp [tx]
theorem tx_at (l : List Char) {i : Int} (h0 : 0 ≤ i) (h1 : i < l.length) : ∃ c ∈ l, l[i.toNat]? = some c ∧ ∀ {s : S} {Q : D → S → Prop}, l.length ≤ sizeLine → wp (dIx (.str (tx l)) (.int i) s) Q E = Q (.str (tx [c])) s := by
  have hl : i.toNat < l.length := by omega
  refine ⟨l[i.toNat], List.getElem_mem hl, List.getElem?_eq_getElem hl, fun {s Q} hz => ?_⟩
  have e : atI (tx l).cps.toList i = some (l[i.toNat]).toNat := by
    rw [atI_nat (n := i.toNat) (by omega)]
    simp [tx, List.getElem?_map, List.getElem?_eq_getElem hl]
  show wp (if (tx l).length ≤ sizeLine then (match atI (tx l).cps.toList i with | some c => R.ok (.str ⟨#[c]⟩) s | none => .bad) else .bad) Q E = _
  rw [if_pos (by rw [tx_len]; exact hz), e]
  exact wp_ok
/-- one sign in a text -/
theorem tx_in (c : Char) (l : List Char) : strIn (tx [c]) (tx l) = decide (c ∈ l) := by
  have h := PySem.StrLaws.found_one (tx l) c.toNat
  have e : (c.toNat ∈ (tx l).cps.toList) ↔ c ∈ l := by
    simp only [tx, List.mem_map]
    constructor
    · rintro ⟨d, hd, h⟩
      rw [← toNat_inj h]
      exact hd
    · exact fun h => ⟨c, h, rfl⟩
  unfold strIn
  refine (h.trans ?_)
  exact decide_eq_decide.mpr e
section
variable {Q : D → S → Prop} {E : D → S → Prop} {s : S} {a b : List Char} {c : Char}
theorem x_eq : wp (dEq (.str (tx a)) (.str (tx b)) s) Q E = Q (.bl (decide (a = b))) s := by rw [w_eqS (tx_ok a) (tx_ok b), tx_beq]
theorem x_ne : wp (dNe (.str (tx a)) (.str (tx b)) s) Q E = Q (.bl (!decide (a = b))) s := by rw [w_neS (tx_ok a) (tx_ok b), tx_beq]
theorem x_add : wp (dAdd (.str (tx a)) (.str (tx b)) s) Q E = (a.length + b.length ≤ sizeLine ∧ Q (.str (tx (a ++ b))) s) := by rw [w_addS, tx_len, tx_len, tx_app]
theorem x_iadd : wp (dIAdd (.str (tx a)) (.str (tx b)) s) Q E = (a.length + b.length ≤ sizeLine ∧ Q (.str (tx (a ++ b))) s) := by rw [w_iaddS, tx_len, tx_len, tx_app]
theorem x_len : wp (dLen [.str (tx a)] s) Q E = (a.length ≤ sizeLine ∧ Q (.int a.length) s) := by rw [w_lenS, tx_len]
theorem x_in : wp (dIn (.str (tx [c])) (.str (tx b)) s) Q E = Q (.bl (decide (c ∈ b))) s := by rw [← tx_in]; exact wp_ok
theorem x_notin : wp (dNotIn (.str (tx [c])) (.str (tx b)) s) Q E = Q (.bl (!decide (c ∈ b))) s := by rw [← tx_in]; exact wp_ok
end
end Pm
namespace Pm
open PySem PySem.Spec PyProof.Rows L2

/-! ### the calculus: methods, dicts, o.f op= e -/
section
variable {Q : D → S → Prop} {E : D → S → Prop} {ρ : Rho} {s : S}
theorem wp_meth {m : Str} {gs : List (Str × (List D → S → R D))} {mo : ME} {ms : MA} : wp (mMeth m gs mo ms ρ s) Q E = wp (mo ρ s) (fun d s1 => match insOf s1 d with
    | some (c, fs) => (match gs.lookup c, fs.lookup m with
      | some G, none => wp (ms ρ s1) (fun ds s2 => wp (G (d :: ds) s2) Q E) E
      | _, _ => False)
    | none => False) E := by
  unfold mMeth
  rw [wp_bind]
  congr 1
  funext d s1
  cases insOf s1 d with
  | none => exact wp_bad
  | some p =>
    obtain ⟨c, fs⟩ := p
    simp only
    cases gs.lookup c with
    | none => exact wp_bad
    | some G =>
      cases fs.lookup m with
      | none => exact wp_bind
      | some z => exact wp_bad
theorem wp_disp {ks : List Key} {ms : MA} : wp (mDisp ks ms ρ s) Q E = wp (ms ρ (s ++ [.dK []])) (fun ds s1 => match s1[s.length]? with
    | some (.dK []) => (ds.length = ks.length ∧ ks.length ≤ 15) ∧ Q (.ref s.length) (s1.set s.length (.dK (mergeD [] (ks.zip ds))))
    | _ => False) E := by
  unfold mDisp
  rw [wp_bind]
  congr 1
  funext ds s1
  cases s1[s.length]? with
  | none => exact wp_bad
  | some o =>
    cases o with
    | lst xs => exact wp_bad
    | ins c fs => exact wp_bad
    | dK kvs =>
      cases kvs with
      | cons a b => exact wp_bad
      | nil => exact wp_ifb'
theorem wp_dictN : wp (mDictN ρ s) Q E = Q (.ref s.length) (s ++ [.dK []]) := wp_ok
theorem w_ixK {n : Nat} {kvs : List (Key × D)} {z : Str} (h : s[n]? = some (.dK kvs)) : wp (dIxK (.ref n) (.str z) s) Q E = match valD kvs (.inr z) with | some d => Q d s | none => False := by
  have e : dictAt s (.ref n) = some kvs := by simp only [dictAt, h]
  unfold dIxK
  simp only [e, keyD]
  cases valD kvs (.inr z) <;> first | exact wp_ok | exact wp_bad
theorem wp_gSubK {o i : ME} {v : D} {Q : Rho → S → Prop} : wp (gSubK o i v ρ s) Q E = wp (o ρ s) (fun x s1 => wp (i ρ s1) (fun y s2 => match dStoreK x y v s2 with | some s3 => Q ρ s3 | none => False) E) E := by
  unfold gSubK
  rw [wp_bind]
  congr 1
  funext x s1
  rw [wp_bind]
  congr 1
  funext y s2
  cases dStoreK x y v s2 <;> first | exact wp_ok | exact wp_bad
theorem put_K {n : Nat} {kvs : List (Key × D)} {z : Str} {v : D} (h : s[n]? = some (.dK kvs)) (hl : kvs.length ≤ 1000000) : dStoreK (.ref n) (.str z) v s = some (s.set n (.dK (putD kvs (.inr z) v))) := by
  unfold dStoreK
  simp only [h, keyD]
  rw [if_pos (Nat.lt_of_le_of_lt hl (by decide))]
theorem wp_lcN {it : MI} {g : MG} {t : MT} {m : ME} {own : List Nat} : wp (mLcN it g t m own ρ s) Q E = wp (it ρ s) (fun p s1 => wp (mapL p.2 p.1 g t m p.1 (wipeD ρ own) s1) (fun ds s2 => p.1.length ≤ sizeLine ∧ Q (.ref s2.length) (s2 ++ [.lst ds]))) E := by
  unfold mLcN
  rw [wp_bind]
  congr 1
  funext p s1
  cases mapL p.2 p.1 g t m p.1 (wipeD ρ own) s1 with
  | ok ds s2 => simp only [wp_ok]; exact wp_ifb'
  | exc x s2 => (rw [wp_eq, wp_eq]; rfl)
  | bad => (rw [wp_eq, wp_eq]; rfl)
theorem wS_fldaug {f : Str} {cs : List Str} {g : D → D → S → R D} {mo mv : ME} {Q : C → S → Prop} {E : D → Rho → S → Prop} : wS (sFldAugD f cs g mo mv ρ s) Q E = wp (mo ρ s) (fun d s1 => match d with
    | .ref n => (match s1[n]? with
      | some (.ins c fs) => c ∈ cs ∧ (match fs.lookup f with
        | some x => wp (mv ρ s1) (fun y s2 => wp (g x y s2) (fun z s3 => (match s3[n]? with
          | some (.ins c' fs') => (c' = c ∧ fs'.length < 1000) ∧ Q (.nx ρ) (s3.set n (.ins c' (putFD f z fs')))
          | _ => False)) (fun x s => E x ρ s)) (fun x s => E x ρ s)
        | none => False)
      | _ => False)
    | _ => False) (fun x s => E x ρ s) := by
  unfold sFldAugD
  rw [wS_st]
  congr 1
  funext d s1
  cases d <;> try exact wS_bad
  rename_i n
  simp only
  cases s1[n]? with
  | none => exact wS_bad
  | some o =>
    cases o with
    | lst xs => exact wS_bad
    | dK kvs => exact wS_bad
    | ins c fs =>
      simp only
      by_cases hc : c ∈ cs
      · rw [if_pos hc]
        simp only [hc, true_and]
        cases fs.lookup f with
        | none => exact wS_bad
        | some x =>
          simp only
          rw [wS_st]
          congr 1
          funext y s2
          rw [wS_st]
          congr 1
          funext z s3
          cases s3[n]? with
          | none => exact wS_bad
          | some o3 =>
            cases o3 with
            | lst xs => exact wS_bad
            | dK kvs => exact wS_bad
            | ins c' fs' =>
              simp only
              by_cases h : c' = c ∧ fs'.length < 1000
              · rw [if_pos h]; simp [h, wS_ok]
              · rw [if_neg h]; simp only [wS_bad]; simp only [h, false_and]
      · rw [if_neg hc]; simp only [wS_bad, hc, false_and]
/-! words in a written tuple -/
theorem w_inUs {xs : List String} {z : String} : wp (dIn (.str (Str.ofString z)) (.tup (xs.map fun x => .str (Str.ofString x))) s) Q E = Q (.bl (xs.any fun x => x == z)) s := by
  have e : (xs.map fun x => D.str (Str.ofString x)).all flatD = true := by
    rw [List.all_map]; exact List.all_eq_true.mpr fun _ _ => rfl
  have e2 : dMem (.str (Str.ofString z)) (.tup (xs.map fun x => .str (Str.ofString x))) s = some ((xs.map fun x => D.str (Str.ofString x)).any fun y => sEq y (.str (Str.ofString z))) := by
    simp only [dMem, flatD, e]; simp
  unfold dIn
  rw [e2, List.any_map]
  refine wp_ok.trans ?_
  congr 3
  funext x
  exact sEq_T
theorem w_inU2 {x y z : String} : wp (dIn (.str (Str.ofString z)) (.tup [.str (Str.ofString x), .str (Str.ofString y)]) s) Q E = Q (.bl (x == z || (y == z || false))) s := w_inUs (xs := [x, y])
theorem w_inU3 {x y u z : String} : wp (dIn (.str (Str.ofString z)) (.tup [.str (Str.ofString x), .str (Str.ofString y), .str (Str.ofString u)]) s) Q E = Q (.bl (x == z || (y == z || (u == z || false)))) s := w_inUs (xs := [x, y, u])
end
end Pm
namespace Pm
open PySem PySem.Spec PyProof.Rows L2

/-! ### the calculus: exceptions, f-strings -/
section
variable {α : Type} {ρ : Rho} {s : S}
theorem wS_raise {c : Str} {G : List D → S → R (List (Str × D))} {ms : MA} {Q : C → S → Prop} {E : D → Rho → S → Prop} : wS (sRaise c G ms ρ s) Q E = wp (ms ρ s) (fun ds s1 => wp (G ds s1) fun fs s2 => fs ≠ [] ∧ E (.ins c fs) ρ s2) (fun x s => E x ρ s) := by
  unfold sRaise
  cases ms ρ s with
  | bad => rw [wS_bad, wp_bad]
  | exc x s1 => rw [wS_exc, wp_exc]
  | ok ds s1 =>
    simp only [wp_ok]
    cases G ds s1 with
    | bad => rw [wS_bad, wp_bad]
    | exc x s2 => rw [wS_bad, wp_exc]
    | ok fs s2 =>
      simp only [wp_ok]
      cases fs with
      | nil => rw [wS_bad]; simp
      | cons f fs => rw [wS_exc]; simp
theorem wp_xinit {n : Nat} {msg : ME} {sets : List (Str × ME)} {ds : List D} {Q : List (Str × D) → S → Prop} {E : D → S → Prop} : wp (mXInit n msg sets ds s) Q E = (ds.length = n ∧ wp (msg (none :: ds.map some) s) (fun _ s1 => wp (setsM (none :: ds.map some) sets [] s1) Q E) E) := by
  unfold mXInit
  by_cases h : ds.length = n
  · rw [if_pos h, wp_bind]; simp [h]
  · rw [if_neg h, wp_bad]; simp [h]
theorem wp_sets0 {acc : List (Str × D)} {Q : List (Str × D) → S → Prop} {E : D → S → Prop} : wp (setsM ρ [] acc s) Q E = Q acc s := by rw [setsM, wp_ok]
theorem wp_sets1 {f : Str} {m : ME} {r : List (Str × ME)} {acc : List (Str × D)} {Q : List (Str × D) → S → Prop} {E : D → S → Prop} : wp (setsM ρ ((f, m) :: r) acc s) Q E = wp (m ρ s) (fun d s1 => wp (setsM ρ r ((f, d) :: acc) s1) Q E) E := by rw [setsM, wp_bind]
theorem wp_fs {ms : MA} {Q : D → S → Prop} {E : D → S → Prop} : wp (mFs ms ρ s) Q E = wp (ms ρ s) (fun ds s1 => fmtOk ds = true ∧ Q (.str (fmtT Str.empty ds)) s1) := by
  unfold mFs
  cases ms ρ s with
  | bad => rw [wp_bad, wp_bad]
  | exc x s1 => rw [wp_bad, wp_exc]
  | ok ds s1 =>
    simp only [wp_ok]
    by_cases h : fmtOk ds = true
    · rw [if_pos h, wp_ok]; simp [h]
    · rw [if_neg h, wp_bad]; simp [h]
theorem wp_xf {k : Nat} {f : Str} {cs : List Str} {m : ME} {Q : D → S → Prop} {E : D → S → Prop} : wp (mXf k f cs m ρ s) Q E = wp (m ρ s) (fun d s1 => match d with | .exn j c fs => (j = k ∧ c ∈ cs) ∧ (match fs.lookup f with | some v => Q v s1 | none => False) | _ => False) E := by
  unfold mXf
  rw [wp_bind]
  congr 1
  funext d s1
  cases d <;> try exact wp_bad
  rename_i j c fs
  simp only
  by_cases h : j = k ∧ c ∈ cs
  · rw [if_pos h]
    simp only [h, true_and, and_self]
    cases fs.lookup f
    · exact wp_bad
    · exact wp_ok
  · rw [if_neg h, wp_bad]; simp only [h, false_and]
theorem wp_xis {k : Nat} {tab : Str → Option Bool} {m : ME} {Q : D → S → Prop} {E : D → S → Prop} : wp (mXis k tab m ρ s) Q E = wp (m ρ s) (fun d s1 => match d with | .exn j c fs => j = k ∧ (match tab c with | some b => Q (.bl b) s1 | none => False) | _ => False) E := by
  unfold mXis
  rw [wp_bind]
  congr 1
  funext d s1
  cases d <;> try exact wp_bad
  rename_i j c fs
  simp only
  by_cases h : j = k
  · rw [if_pos h]
    simp only [h, true_and]
    cases tab c
    · exact wp_bad
    · exact wp_ok
  · rw [if_neg h, wp_bad]; simp only [h, false_and]
/-- behind a suite -/
def hdQ (i : Option Nat) (Q : C → S → Prop) : C → S → Prop
  | .nx ρ, s => Q (.nx (setO i none ρ)) s
  | .bk ρ, s => Q (.bk (setO i none ρ)) s
  | .ct ρ, s => Q (.ct (setO i none ρ)) s
  | .rt d, s => Q (.rt d) s
/-- what the clauses ask -/
def hdW (c : Str) (fs : List (Str × D)) (ρ : Rho) (s : S) (Q : C → S → Prop) (E : D → Rho → S → Prop) : List Hd → Prop
  | [] => E (.ins c fs) ρ s
  | h :: r => match h.p c with
    | some true => ∀ k, wS (h.m k (setO h.i (some (.exn k c fs)) ρ) s) (hdQ h.i Q)
    | some false => hdW c fs ρ s Q E r
    | none => False
theorem hdW_ok {c : Str} {fs : List (Str × D)} {Q : C → S → Prop} {E : D → Rho → S → Prop} : ∀ {hs : List Hd}, hdW c fs ρ s Q E hs → wS (hdM c fs ρ s hs) Q E
  | [], h => by unfold hdM; rw [wS_exc]; exact h
  | ⟨p, i, m⟩ :: r, h => by
    unfold hdM
    unfold hdW at h
    simp only at h ⊢
    cases e : p c with
    | none => rw [e] at h; exact False.elim h
    | some b =>
      rw [e] at h
      cases b with
      | false => exact hdW_ok h
      | true =>
        simp only at h ⊢
        have h1 := h (kxx ρ s fs)
        generalize m (kxx ρ s fs) (setO i (some (.exn (kxx ρ s fs) c fs)) ρ) s = r at h1
        cases r with
        | bad => rw [wS_bad] at h1; exact h1.elim
        | exc x ρ s => rw [wS_exc] at h1; exact h1.elim
        | ok c s =>
          rw [wS_ok] at h1
          cases c <;> (unfold hdEnd; rw [wS_ok]; exact h1)
theorem wS_try {b : MS} {hs : List Hd} {Q : C → S → Prop} {E : D → Rho → S → Prop} (h : wS (b ρ s) Q (fun x ρ1 s1 => match x with | .ins c fs => hdW c fs ρ1 s1 Q E hs | _ => False)) : wS (sTry b hs ρ s) Q E := by
  unfold sTry
  cases e : b ρ s with
  | bad => rw [e, wS_bad] at h; exact h.elim
  | ok c s1 => rw [e, wS_ok] at h; simp only; rw [wS_ok]; exact h
  | exc x ρ1 s1 =>
    rw [e, wS_exc] at h
    cases x <;> first
      | exact hdW_ok h
      | exact h.elim
theorem tabF_nil {c : Str} : tabF [] c = none := rfl
theorem tabF_cons {x y : String} {b : Bool} {l : List (Str × Bool)} : tabF ((Str.ofString x, b) :: l) (Str.ofString y) = if (y == x) = true then some b else tabF l (Str.ofString y) := by
  unfold tabF
  rw [List.lookup_cons, str_beq]
  cases y == x <;> rfl
end

/-! ### truth values -/
def isBl (d : D) (f : Bool → Prop) : Prop := match d with
  | .bl b => f b
  | _ => False
theorem isBl_bl {b : Bool} {f : Bool → Prop} : isBl (.bl b) f = f b := rfl
section
variable {Q : D → S → Prop} {E : D → S → Prop} {ρ : Rho} {s : S}
theorem wp_and' {a b : ME} : wp (mAnd a b ρ s) Q E = wp (a ρ s) (fun d s1 => isBl d fun k => if k = true then wp (b ρ s1) Q E else Q (.bl false) s1) E := by
  rw [wp_and]
  congr 1
  funext d s1
  cases d <;> try rfl
  rename_i k
  cases k <;> rfl
theorem wp_or' {a b : ME} : wp (mOr a b ρ s) Q E = wp (a ρ s) (fun d s1 => isBl d fun k => if k = true then Q (.bl true) s1 else wp (b ρ s1) Q E) E := by
  rw [wp_or]
  congr 1
  funext d s1
  cases d <;> try rfl
  rename_i k
  cases k <;> rfl
theorem wp_chain' {f g : D → D → S → R D} {a b c : ME} : wp (mChain f g a b c ρ s) Q E = wp (a ρ s) (fun x s1 => wp (b ρ s1) (fun y s2 => wp (f x y s2) (fun k s3 => isBl k fun k => if k = true then wp (c ρ s3) (fun z s4 => wp (g y z s4) Q E) E else Q (.bl false) s3) E) E) E := by
  rw [wp_chain]
  congr 1
  funext x s1
  congr 1
  funext y s2
  congr 1
  funext k s3
  cases k <;> try rfl
  rename_i b
  cases b <;> rfl
end
/-! ### and, or, if: one way where nothing happens on the way -/
section
variable {α : Type} {Q : α → S → Prop} {s s' : S} {k b : Bool} {x y : α}
def andK (k : Bool) (f : (Bool → S → Prop) → Prop) (Q : Bool → S → Prop) (s : S) : Prop := if k = true then f Q else Q false s
def orK (k : Bool) (f : (Bool → S → Prop) → Prop) (Q : Bool → S → Prop) (s : S) : Prop := if k = true then Q true s else f Q
def iteK (k : Bool) (f g : (α → S → Prop) → Prop) (Q : α → S → Prop) : Prop := if k = true then f Q else g Q
def andV (k : Bool) (f : (D → S → Prop) → Prop) (Q : D → S → Prop) (s : S) : Prop := if k = true then f Q else Q (.bl false) s
def orV (k : Bool) (f : (D → S → Prop) → Prop) (Q : D → S → Prop) (s : S) : Prop := if k = true then Q (.bl true) s else f Q
theorem andK_p {Q : Bool → S → Prop} : andK k (fun Q => Q b s) Q s = Q (k && b) s := by cases k <;> rfl
theorem orK_p {Q : Bool → S → Prop} : orK k (fun Q => Q b s) Q s = Q (k || b) s := by cases k <;> rfl
theorem andV_p {Q : D → S → Prop} : andV k (fun Q => Q (.bl b) s) Q s = Q (.bl (k && b)) s := by cases k <;> rfl
theorem orV_p {Q : D → S → Prop} : orV k (fun Q => Q (.bl b) s) Q s = Q (.bl (k || b)) s := by cases k <;> rfl
theorem iteK_p : iteK k (fun Q => Q x s) (fun Q => Q y s) Q = Q (if k = true then x else y) s := by cases k <;> rfl
theorem andK_t {f : (Bool → S → Prop) → Prop} {Q : Bool → S → Prop} : andK true f Q s = f Q := rfl
theorem andK_f {f : (Bool → S → Prop) → Prop} {Q : Bool → S → Prop} : andK false f Q s = Q false s := rfl
theorem orK_t {f : (Bool → S → Prop) → Prop} {Q : Bool → S → Prop} : orK true f Q s = Q true s := rfl
theorem orK_f {f : (Bool → S → Prop) → Prop} {Q : Bool → S → Prop} : orK false f Q s = f Q := rfl
theorem andV_t {f : (D → S → Prop) → Prop} {Q : D → S → Prop} : andV true f Q s = f Q := rfl
theorem andV_f {f : (D → S → Prop) → Prop} {Q : D → S → Prop} : andV false f Q s = Q (.bl false) s := rfl
theorem orV_t {f : (D → S → Prop) → Prop} {Q : D → S → Prop} : orV true f Q s = Q (.bl true) s := rfl
theorem orV_f {f : (D → S → Prop) → Prop} {Q : D → S → Prop} : orV false f Q s = f Q := rfl
theorem iteK_t {f g : (α → S → Prop) → Prop} : iteK true f g Q = f Q := rfl
theorem iteK_f {f g : (α → S → Prop) → Prop} : iteK false f g Q = g Q := rfl
end
section
variable {Q : D → S → Prop} {E : D → S → Prop} {ρ : Rho} {s : S}
theorem wp_and2 {a b : ME} : wp (mAnd a b ρ s) Q E = wp (a ρ s) (fun d s1 => isBl d fun k => andV k (fun Q => wp (b ρ s1) Q E) Q s1) E := wp_and'
theorem wp_or2 {a b : ME} : wp (mOr a b ρ s) Q E = wp (a ρ s) (fun d s1 => isBl d fun k => orV k (fun Q => wp (b ρ s1) Q E) Q s1) E := wp_or'
theorem wp_chain2 {f g : D → D → S → R D} {a b c : ME} : wp (mChain f g a b c ρ s) Q E = wp (a ρ s) (fun x s1 => wp (b ρ s1) (fun y s2 => wp (f x y s2) (fun k s3 => isBl k fun k => andV k (fun Q => wp (c ρ s3) (fun z s4 => wp (g y z s4) Q E) E) Q s3) E) E) E := wp_chain'
theorem wp_if2 {c : MT} {a b : ME} : wp (mIf c a b ρ s) Q E = wp (c ρ s) (fun k s1 => iteK k (fun Q => wp (a ρ s1) Q E) (fun Q => wp (b ρ s1) Q E) Q) E := wp_if
theorem wp_tAnd2 {a b : MT} {Q : Bool → S → Prop} : wp (tAnd2 a b ρ s) Q E = wp (a ρ s) (fun k s1 => andK k (fun Q => wp (b ρ s1) Q E) Q s1) E := wp_tAnd
theorem wp_tOr2 {a b : MT} {Q : Bool → S → Prop} : wp (tOr2 a b ρ s) Q E = wp (a ρ s) (fun k s1 => orK k (fun Q => wp (b ρ s1) Q E) Q s1) E := wp_tOr
/-- truth -/
theorem wp_tTru2 {a : ME} {Q : Bool → S → Prop} : wp (tTru dTru a ρ s) Q E = wp (a ρ s) (fun d s1 => ∃ b, dTru d s1 = some b ∧ Q b s1) E := by
  rw [wp_tTru]
  congr 1
  funext d s1
  cases dTru d s1 <;> simp
theorem dTru_bl {b : Bool} {P : Bool → Prop} : (∃ k, dTru (.bl b) s = some k ∧ P k) = P b := by simp [dTru]
theorem dTru_lst {xs : List D} {P : Bool → Prop} : (∃ k, dTru (.lst xs) s = some k ∧ P k) = P (!xs.isEmpty) := by simp only [dTru, Option.some.injEq, exists_eq_left']
theorem dTru_int {i : Int} {P : Bool → Prop} : (∃ k, dTru (.int i) s = some k ∧ P k) = P (i != 0) := by simp [dTru]
theorem dTru_non {P : Bool → Prop} : (∃ k, dTru .non s = some k ∧ P k) = P false := by simp [dTru]
theorem dTru_ref {n : Nat} {xs : List D} {P : Bool → Prop} (h : s[n]? = some (.lst xs)) : (∃ k, dTru (.ref n) s = some k ∧ P k) = P (!xs.isEmpty) := by simp only [dTru, h, Option.some.injEq, exists_eq_left']
end
/-! ### membership in written tuples -/
section
variable {Q : D → S → Prop} {E : D → S → Prop} {s : S}
theorem w_inUs' {xs : List String} {z : String} : wp (dIn (.str (Str.ofString z)) (.tup (xs.map fun x => .str (Str.ofString x))) s) Q E = Q (.bl (xs.any fun x => x == z)) s := by
  have e : (xs.map fun x => D.str (Str.ofString x)).all flatD = true := by
    rw [List.all_map]; exact List.all_eq_true.mpr fun _ _ => rfl
  have e2 : dMem (.str (Str.ofString z)) (.tup (xs.map fun x => .str (Str.ofString x))) s = some ((xs.map fun x => D.str (Str.ofString x)).any fun y => sEq y (.str (Str.ofString z))) := by
    simp only [dMem, flatD, e]; simp
  unfold dIn
  rw [e2, List.any_map]
  refine wp_ok.trans ?_
  congr 3
  funext x
  exact sEq_T
theorem w_notinUs {xs : List String} {z : String} : wp (dNotIn (.str (Str.ofString z)) (.tup (xs.map fun x => .str (Str.ofString x))) s) Q E = Q (.bl (!xs.any fun x => x == z)) s := by
  have e : (xs.map fun x => D.str (Str.ofString x)).all flatD = true := by
    rw [List.all_map]; exact List.all_eq_true.mpr fun _ _ => rfl
  have e2 : dMem (.str (Str.ofString z)) (.tup (xs.map fun x => .str (Str.ofString x))) s = some ((xs.map fun x => D.str (Str.ofString x)).any fun y => sEq y (.str (Str.ofString z))) := by
    simp only [dMem, flatD, e]; simp
  unfold dNotIn
  rw [e2, List.any_map]
  refine wp_ok.trans ?_
  congr 4
  funext x
  exact sEq_T
theorem w_inU1 {x0 z : String} : wp (dIn (.str (Str.ofString z)) (.tup [.str (Str.ofString x0)]) s) Q E = Q (.bl (x0 == z || false)) s := w_inUs' (xs := [x0])
theorem w_notinU1 {x0 z : String} : wp (dNotIn (.str (Str.ofString z)) (.tup [.str (Str.ofString x0)]) s) Q E = Q (.bl (!(x0 == z || false))) s := w_notinUs (xs := [x0])
theorem w_notinU2 {x0 x1 z : String} : wp (dNotIn (.str (Str.ofString z)) (.tup [.str (Str.ofString x0), .str (Str.ofString x1)]) s) Q E = Q (.bl (!(x0 == z || (x1 == z || false)))) s := w_notinUs (xs := [x0, x1])
theorem w_notinU3 {x0 x1 x2 z : String} : wp (dNotIn (.str (Str.ofString z)) (.tup [.str (Str.ofString x0), .str (Str.ofString x1), .str (Str.ofString x2)]) s) Q E = Q (.bl (!(x0 == z || (x1 == z || (x2 == z || false))))) s := w_notinUs (xs := [x0, x1, x2])
theorem w_inU4 {x0 x1 x2 x3 z : String} : wp (dIn (.str (Str.ofString z)) (.tup [.str (Str.ofString x0), .str (Str.ofString x1), .str (Str.ofString x2), .str (Str.ofString x3)]) s) Q E = Q (.bl (x0 == z || (x1 == z || (x2 == z || (x3 == z || false))))) s := w_inUs' (xs := [x0, x1, x2, x3])
theorem w_notinU4 {x0 x1 x2 x3 z : String} : wp (dNotIn (.str (Str.ofString z)) (.tup [.str (Str.ofString x0), .str (Str.ofString x1), .str (Str.ofString x2), .str (Str.ofString x3)]) s) Q E = Q (.bl (!(x0 == z || (x1 == z || (x2 == z || (x3 == z || false)))))) s := w_notinUs (xs := [x0, x1, x2, x3])
theorem w_inU5 {x0 x1 x2 x3 x4 z : String} : wp (dIn (.str (Str.ofString z)) (.tup [.str (Str.ofString x0), .str (Str.ofString x1), .str (Str.ofString x2), .str (Str.ofString x3), .str (Str.ofString x4)]) s) Q E = Q (.bl (x0 == z || (x1 == z || (x2 == z || (x3 == z || (x4 == z || false)))))) s := w_inUs' (xs := [x0, x1, x2, x3, x4])
theorem w_notinU5 {x0 x1 x2 x3 x4 z : String} : wp (dNotIn (.str (Str.ofString z)) (.tup [.str (Str.ofString x0), .str (Str.ofString x1), .str (Str.ofString x2), .str (Str.ofString x3), .str (Str.ofString x4)]) s) Q E = Q (.bl (!(x0 == z || (x1 == z || (x2 == z || (x3 == z || (x4 == z || false))))))) s := w_notinUs (xs := [x0, x1, x2, x3, x4])
theorem w_inU6 {x0 x1 x2 x3 x4 x5 z : String} : wp (dIn (.str (Str.ofString z)) (.tup [.str (Str.ofString x0), .str (Str.ofString x1), .str (Str.ofString x2), .str (Str.ofString x3), .str (Str.ofString x4), .str (Str.ofString x5)]) s) Q E = Q (.bl (x0 == z || (x1 == z || (x2 == z || (x3 == z || (x4 == z || (x5 == z || false))))))) s := w_inUs' (xs := [x0, x1, x2, x3, x4, x5])
theorem w_notinU6 {x0 x1 x2 x3 x4 x5 z : String} : wp (dNotIn (.str (Str.ofString z)) (.tup [.str (Str.ofString x0), .str (Str.ofString x1), .str (Str.ofString x2), .str (Str.ofString x3), .str (Str.ofString x4), .str (Str.ofString x5)]) s) Q E = Q (.bl (!(x0 == z || (x1 == z || (x2 == z || (x3 == z || (x4 == z || (x5 == z || false)))))))) s := w_notinUs (xs := [x0, x1, x2, x3, x4, x5])
end

theorem w_lenSo {x : String} {Q : D → S → Prop} {E : D → S → Prop} {s : S} : wp (dLen [.str (Str.ofString x)] s) Q E = (x.length ≤ 16777216 ∧ Q (.int x.length) s) := by rw [w_lenS, ofStr_len, line_eq]

/-! ### loops that look for a wrong item -/
theorem wS_forAll {α : Type} {enc : α → D} {P : α → Bool} {d : D} {R : Rho → Prop} {gd : Option Nat} {all : List D} {g : MG} {b : MS} {s : S} {Q : C → S → Prop} {E : D → Rho → S → Prop} (hg : gOk gd all s) : ∀ {xs : List α}, (∀ x ∈ xs, ∀ ρ (Q' : C → S → Prop), R ρ → (P x = false → Q' (.rt d) s) → (P x = true → ∀ ρ', R ρ' → Q' (.nx ρ') s) → wp (g (enc x) ρ s) (fun ρ1 s1 => wS (b ρ1 s1) Q' E)) →
    ∀ ρ, R ρ → (xs.all P = true → ∀ ρ', R ρ' → Q (.nx ρ') s) → (xs.all P = false → Q (.rt d) s) → wS (forL gd all g b (xs.map enc) ρ s) Q E
  | [], _, ρ, hr, h1, _ => by
    rw [List.map_nil, wS_forL_nil]
    exact ⟨hg, h1 rfl ρ hr⟩
  | x :: xs, hb, ρ, hr, h1, h2 => by
    rw [List.map_cons, wS_forL_cons]
    refine ⟨hg, hb x (List.mem_cons_self ..) ρ _ hr (fun hp => ?_) fun hp ρ' hr' => ?_⟩
    · exact h2 (by rw [List.all_cons, hp]; rfl)
    · exact wS_forAll hg (fun y hy => hb y (List.mem_cons_of_mem _ hy)) ρ' hr' (fun h => h1 (by rw [List.all_cons, hp, h]; rfl)) fun h => h2 (by rw [List.all_cons, hp, h]; rfl)
/-- a range whose turns change nothing but slots -/
theorem wS_forR {R : Rho → Prop} {lo : Int} {n : Nat} {gd : Option Nat} {all : List D} {g : MG} {b : MS} {s : S} {Q : C → S → Prop} {E : D → Rho → S → Prop} (hg : gOk gd all s) (hb : ∀ i < n, ∀ ρ (Q' : C → S → Prop), R ρ → (∀ ρ', R ρ' → Q' (.nx ρ') s) → wp (g (.int (lo + (i : Nat))) ρ s) (fun ρ1 s1 => wS (b ρ1 s1) Q' E))
    (ρ : Rho) (h : R ρ) (k : ∀ ρ', R ρ' → Q (.nx ρ') s) : wS (forL gd all g b (rng lo n) ρ s) Q E := by
  unfold rng
  refine wS_forAll (P := fun _ => true) (d := .non) (R := R) hg (fun i hi ρ Q' hr _ h2 => hb i (List.mem_range.mp hi) ρ Q' hr (h2 rfl)) ρ h (fun _ => k) fun h => ?_
  simp at h
/-- a comprehension that changes nothing -/
theorem wp_mapF {α : Type} {enc f : α → D} {P : α → Bool} {gd : Option Nat} {all : List D} {g : MG} {t : MT} {m : ME} {ρ : Rho} {s : S} {Q : List D → S → Prop} {xs : List α} (hg : gOk gd all s)
    (h : ∀ x ∈ xs, ∀ (Q1 : Bool → Rho → S → Prop), (∀ ρ1, (∀ Q2 : D → S → Prop, P x = true → Q2 (f x) s → wp (m ρ1 s) Q2) → Q1 (P x) ρ1 s) → wp (g (enc x) ρ s) fun ρ1 s1 => wp (t ρ1 s1) fun k s2 => Q1 k ρ1 s2)
    (k : Q ((xs.filter P).map f) s) : wp (mapL gd all g t m (xs.map enc) ρ s) Q := by
  refine wp_mapL (I := fun rest acc s' => s' = s ∧ ∃ us vs, xs = us ++ vs ∧ rest = vs.map enc ∧ acc = (us.filter P).map f) (fun _ _ _ h => h.1 ▸ hg) ?_ (xs.map enc) [] s ⟨rfl, [], xs, rfl, rfl, rfl⟩ ?_
  · rintro x rest a s' ⟨rfl, us, vs, e1, e2, rfl⟩
    cases vs with
    | nil => cases e2
    | cons v vs =>
      cases e2
      have hm : v ∈ xs := by rw [e1]; simp
      refine h v hm (fun k ρ1 s2 => if k = true then wp (m ρ1 s2) (fun d s3 => s3 = s' ∧ ∃ us vs', xs = us ++ vs' ∧ vs.map enc = vs'.map enc ∧ _ ++ [d] = (us.filter P).map f) else s2 = s' ∧ ∃ us vs', xs = us ++ vs' ∧ vs.map enc = vs'.map enc ∧ _ = (us.filter P).map f) fun ρ1 hQ => ?_
      by_cases hp : P v = true
      · rw [if_pos hp]
        refine hQ _ hp ⟨rfl, us ++ [v], vs, by rw [e1]; simp, rfl, by simp [hp]⟩
      · rw [if_neg hp]
        exact ⟨rfl, us ++ [v], vs, by rw [e1]; simp, rfl, by simp [hp]⟩
  · rintro a' s' ⟨rfl, us, vs, e1, e2, e3⟩
    cases vs with
    | cons v vs => cases e2
    | nil =>
      rw [List.append_nil] at e1
      subst e1
      rw [List.nil_append] at e3
      rw [e3]
      exact k
theorem wp_mapP {α : Type} {enc f : α → D} {gd : Option Nat} {all : List D} {g : MG} {m : ME} {ρ : Rho} {s : S} {Q : List D → S → Prop} {xs : List α} (hg : gOk gd all s)
    (h : ∀ x ∈ xs, ∀ (Q2 : D → S → Prop), Q2 (f x) s → wp (g (enc x) ρ s) fun ρ1 s1 => wp (m ρ1 s1) Q2) (k : Q (xs.map f) s) : wp (mapL gd all g tAll m (xs.map enc) ρ s) Q := by
  refine wp_mapL (I := fun rest acc s' => s' = s ∧ ∃ us vs, xs = us ++ vs ∧ rest = vs.map enc ∧ acc = us.map f) (fun _ _ _ h => h.1 ▸ hg) ?_ (xs.map enc) [] s ⟨rfl, [], xs, rfl, rfl, rfl⟩ ?_
  · rintro x rest a s' ⟨rfl, us, vs, e1, e2, rfl⟩
    cases vs with
    | nil => cases e2
    | cons v vs =>
      cases e2
      have hm : v ∈ xs := by rw [e1]; simp
      simp only [wp_tAll, if_true]
      exact h v hm _ ⟨rfl, us ++ [v], vs, by rw [e1]; simp, rfl, by simp⟩
  · rintro a' s' ⟨rfl, us, vs, e1, e2, e3⟩
    cases vs with
    | cons v vs => cases e2
    | nil =>
      rw [List.append_nil] at e1
      subst e1
      rw [List.nil_append] at e3
      rw [e3]
      exact k
section
variable {Q : D → S → Prop} {E : D → S → Prop} {s : S} {xs : List D}
theorem w_tupT : wp (dTuple [.tup xs] s) Q E = Q (.tup xs) s := wp_ok
theorem w_tupL : wp (dTuple [.lst xs] s) Q E = Q (.tup xs) s := wp_ok
theorem w_tupR {n : Nat} (h : s[n]? = some (.lst xs)) : wp (dTuple [.ref n] s) Q E = Q (.tup xs) s := by
  show wp (match sview s (.ref n) with | some xs => R.ok (.tup xs) s | none => .bad) Q E = _
  rw [show sview s (.ref n) = lview s (.ref n) from rfl, lview_ref h]
  exact wp_ok
end
theorem ty_tup {s : S} {xs : List D} : tyName s (.tup xs) = some "tuple" := rfl
theorem ty_lst {s : S} {xs : List D} : tyName s (.lst xs) = some "list" := rfl
theorem ty_int {s : S} {i : Int} : tyName s (.int i) = some "int" := rfl
theorem ty_bl {s : S} {i : Bool} : tyName s (.bl i) = some "bool" := rfl
theorem ty_str {s : S} {i : Str} : tyName s (.str i) = some "str" := rfl
theorem ty_non {s : S} : tyName s .non = some "NoneType" := rfl
theorem ty_ref {s : S} {n : Nat} {xs : List D} (h : s[n]? = some (.lst xs)) : tyName s (.ref n) = some "list" := by simp only [tyName, h]
theorem wp_rep {ms : MA} {mk : ME} {new : Bool} {ρ : Rho} {s : S} {Q : D → S → Prop} {E : D → S → Prop} : wp (mRep ms mk new ρ s) Q E = wp (ms ρ s) (fun ds s1 => ds.length ≤ sizeLine ∧ wp (mk ρ s1) (fun d s2 => match d with
    | .int k => (-(2 ^ 63) ≤ k ∧ k < 2 ^ 63 ∧ ds.length * k.toNat ≤ sizeLine) ∧ (if new = true then Q (.ref s2.length) (s2 ++ [.lst (List.replicate k.toNat ds).flatten]) else Q (.lst (List.replicate k.toNat ds).flatten) s2)
    | _ => False) E) E := by
  unfold mRep
  rw [wp_bind]
  congr 1
  funext ds s1
  by_cases h : ds.length ≤ sizeLine
  · rw [if_pos h, wp_bind]
    simp only [h, true_and]
    congr 1
    funext d s2
    cases d <;> try exact wp_bad
    rename_i k
    simp only
    by_cases h2 : -(2 ^ 63) ≤ k ∧ k < 2 ^ 63 ∧ ds.length * k.toNat ≤ sizeLine
    · rw [if_pos h2]
      simp only [h2, and_self, true_and]
      cases new <;> exact wp_ok
    · rw [if_neg h2, wp_bad]; simp only [h2, false_and]
  · rw [if_neg h, wp_bad]; simp only [h, false_and]
theorem gok0 {all : List D} {s : S} : gOk none all s = True := rfl
theorem nb {b : Bool} : ((!b) = true) = ¬ (b = true) := by cases b <;> simp
end Pm
namespace Pm
open PySem PySem.Spec PyProof.Rows L2

/-! ### == and != of data that stand for plain things -/
structure EncOk {α : Type} [DecidableEq α] (k : Nat) (enc : α → D) : Prop where
  ok : ∀ s x, ∃ p, toPy s k (enc x) = some p
  eq : ∀ s x y p q, toPy s k (enc x) = some p → toPy s k (enc y) = some q → PyData.eqv p q = decide (x = y)
section
variable {α β : Type} [DecidableEq α] [DecidableEq β] {k j : Nat} {enc : α → D} {enc2 : β → D}
theorem EncOk.up (h : EncOk k enc) (hj : k ≤ j) : EncOk j enc where
  ok := fun s x => let ⟨p, hp⟩ := h.ok s x; ⟨p, toPy_le hj hp⟩
  eq := fun s x y p q hp hq => by
    obtain ⟨p', hp'⟩ := h.ok s x
    obtain ⟨q', hq'⟩ := h.ok s y
    rw [toPy_le hj hp'] at hp
    rw [toPy_le hj hq'] at hq
    cases hp
    cases hq
    exact h.eq s x y p q hp' hq'
theorem enc_int : EncOk 1 D.int where
  ok := fun s x => ⟨_, rfl⟩
  eq := fun s x y p q hp hq => by
    cases hp
    cases hq
    show (x == y) = _
    rw [Bool.eq_iff_iff, beq_iff_eq, decide_eq_true_eq]
theorem enc_bl : EncOk 1 D.bl where
  ok := fun s x => ⟨_, rfl⟩
  eq := fun s x y p q hp hq => by
    cases hp
    cases hq
    show (x == y) = _
    rw [Bool.eq_iff_iff, beq_iff_eq, decide_eq_true_eq]
theorem enc_str : EncOk 1 (fun z : String => D.str (Str.ofString z)) where
  ok := fun s x => ⟨_, if_pos (strOk_of x)⟩
  eq := fun s x y p q hp hq => by
    cases (if_pos (strOk_of x)).symm.trans hp
    cases (if_pos (strOk_of y)).symm.trans hq
    show (Str.ofString x == Str.ofString y) = _
    rw [str_beq, Bool.eq_iff_iff, beq_iff_eq, decide_eq_true_eq]
theorem enc_tx : EncOk 1 (fun z : List Char => D.str (tx z)) where
  ok := fun s x => ⟨_, if_pos (tx_ok x)⟩
  eq := fun s x y p q hp hq => by
    cases (if_pos (tx_ok x)).symm.trans hp
    cases (if_pos (tx_ok y)).symm.trans hq
    show (tx x == tx y) = _
    exact tx_beq x y
theorem optAll_ok (h : EncOk k enc) (s : S) : ∀ xs : List α, ∃ ps, optAll (toPy s k) (xs.map enc) = some ps
  | [] => ⟨[], rfl⟩
  | x :: xs => by
    obtain ⟨p, hp⟩ := h.ok s x
    obtain ⟨ps, hps⟩ := optAll_ok h s xs
    exact ⟨p :: ps, by simp only [List.map_cons, optAll, hp, hps]⟩
theorem optAll_eq (h : EncOk k enc) (s : S) : ∀ (xs ys : List α) (ps qs : List PyData), optAll (toPy s k) (xs.map enc) = some ps → optAll (toPy s k) (ys.map enc) = some qs → PyData.eqvAll ps qs = decide (xs = ys)
  | [], [], ps, qs, hp, hq => by cases hp; cases hq; rfl
  | [], y :: ys, ps, qs, hp, hq => by
    cases hp
    obtain ⟨q, hq1⟩ := h.ok s y
    obtain ⟨qs', hq2⟩ := optAll_ok h s ys
    simp only [List.map_cons, optAll, hq1, hq2] at hq
    cases hq
    simp [PyData.eqvAll]
  | x :: xs, [], ps, qs, hp, hq => by
    cases hq
    obtain ⟨q, hq1⟩ := h.ok s x
    obtain ⟨qs', hq2⟩ := optAll_ok h s xs
    simp only [List.map_cons, optAll, hq1, hq2] at hp
    cases hp
    simp [PyData.eqvAll]
  | x :: xs, y :: ys, ps, qs, hp, hq => by
    obtain ⟨p, hp1⟩ := h.ok s x
    obtain ⟨ps', hp2⟩ := optAll_ok h s xs
    obtain ⟨q, hq1⟩ := h.ok s y
    obtain ⟨qs', hq2⟩ := optAll_ok h s ys
    simp only [List.map_cons, optAll, hp1, hp2] at hp
    simp only [List.map_cons, optAll, hq1, hq2] at hq
    cases hp
    cases hq
    simp only [PyData.eqvAll, h.eq s x y p q hp1 hq1, optAll_eq h s xs ys ps' qs' hp2 hq2, List.cons.injEq]
    by_cases h1 : x = y <;> by_cases h2 : xs = ys <;> simp [h1, h2]
theorem enc_lst (h : EncOk k enc) : EncOk (k + 1) (fun xs : List α => D.lst (xs.map enc)) where
  ok := fun s xs => by
    obtain ⟨ps, hps⟩ := optAll_ok h s xs
    exact ⟨.list ps, by simp only [toPy, hps, Option.map_some]⟩
  eq := fun s xs ys p q hp hq => by
    obtain ⟨ps, hps⟩ := optAll_ok h s xs
    obtain ⟨qs, hqs⟩ := optAll_ok h s ys
    simp only [toPy, hps, Option.map_some] at hp
    simp only [toPy, hqs, Option.map_some] at hq
    cases hp
    cases hq
    simp only [PyData.eqv]
    exact optAll_eq h s xs ys ps qs hps hqs
theorem enc_tup (h : EncOk k enc) : EncOk (k + 1) (fun xs : List α => D.tup (xs.map enc)) where
  ok := fun s xs => by
    obtain ⟨ps, hps⟩ := optAll_ok h s xs
    exact ⟨.tuple ps, by simp only [toPy, hps, Option.map_some]⟩
  eq := fun s xs ys p q hp hq => by
    obtain ⟨ps, hps⟩ := optAll_ok h s xs
    obtain ⟨qs, hqs⟩ := optAll_ok h s ys
    simp only [toPy, hps, Option.map_some] at hp
    simp only [toPy, hqs, Option.map_some] at hq
    cases hp
    cases hq
    simp only [PyData.eqv]
    exact optAll_eq h s xs ys ps qs hps hqs
theorem enc_pair (h : EncOk k enc) (h2 : EncOk k enc2) : EncOk (k + 1) (fun p : α × β => D.tup [enc p.1, enc2 p.2]) where
  ok := fun s p => by
    obtain ⟨a, ha⟩ := h.ok s p.1
    obtain ⟨b, hb⟩ := h2.ok s p.2
    exact ⟨.tuple [a, b], by simp only [toPy, optAll, ha, hb, Option.map_some]⟩
  eq := fun s x y p q hp hq => by
    obtain ⟨a, ha⟩ := h.ok s x.1
    obtain ⟨b, hb⟩ := h2.ok s x.2
    obtain ⟨a', ha'⟩ := h.ok s y.1
    obtain ⟨b', hb'⟩ := h2.ok s y.2
    simp only [toPy, optAll, ha, hb, Option.map_some] at hp
    simp only [toPy, optAll, ha', hb', Option.map_some] at hq
    cases hp
    cases hq
    obtain ⟨x1, x2⟩ := x
    obtain ⟨y1, y2⟩ := y
    simp only [PyData.eqv, PyData.eqvAll, h.eq s _ _ _ _ ha ha', h2.eq s _ _ _ _ hb hb', Prod.mk.injEq]
    by_cases c1 : x1 = y1 <;> by_cases c2 : x2 = y2 <;> simp [c1, c2]
/-- None or .. -/
theorem enc_opt {P : α → Bool} (h : EncOk k enc) (hk : 0 < k) (hn : ∀ s x p, toPy s k (enc x) = some p → PyData.eqv .none p = false ∧ PyData.eqv p .none = false) : EncOk k (fun o : Option α => match o with | none => D.non | some x => enc x) where
  ok := fun s o => by
    cases o with
    | none =>
      obtain ⟨k', rfl⟩ : ∃ k', k = k' + 1 := ⟨k - 1, by omega⟩
      exact ⟨.none, rfl⟩
    | some x => exact h.ok s x
  eq := fun s o o' p q hp hq => by
    obtain ⟨k', rfl⟩ : ∃ k', k = k' + 1 := ⟨k - 1, by omega⟩
    cases o with
    | none =>
      cases hp
      cases o' with
      | none => cases hq; rfl
      | some y => rw [(hn s y q hq).1]; rfl
    | some x =>
      cases o' with
      | none => cases hq; rw [(hn s x p hp).2]; rfl
      | some y => rw [h.eq s x y p q hp hq]; simp
variable {s : S} {Q : D → S → Prop} {E : D → S → Prop}
theorem w_eqE (h : EncOk k enc) (hk : k ≤ 60) {x y : α} : wp (dEq (enc x) (enc y) s) Q E = Q (.bl (decide (x = y))) s := by
  have h := h.up hk
  obtain ⟨p, hp⟩ := h.ok s x
  obtain ⟨q, hq⟩ := h.ok s y
  unfold dEq
  simp only [hp, hq, h.eq s x y p q hp hq]
  exact wp_ok
theorem w_neE (h : EncOk k enc) (hk : k ≤ 60) {x y : α} : wp (dNe (enc x) (enc y) s) Q E = Q (.bl (!decide (x = y))) s := by
  have h := h.up hk
  obtain ⟨p, hp⟩ := h.ok s x
  obtain ⟨q, hq⟩ := h.ok s y
  unfold dNe
  simp only [hp, hq, h.eq s x y p q hp hq]
  exact wp_ok
theorem toPy_ref {n : Nat} {xs : List D} (h : s[n]? = some (.lst xs)) : ∀ k, toPy s k (.ref n) = toPy s k (.lst xs)
  | 0 => rfl
  | k + 1 => by simp only [toPy, h]
theorem eq_refL {n : Nat} {xs : List D} {d : D} (h : s[n]? = some (.lst xs)) : dEq (.ref n) d s = dEq (.lst xs) d s := by unfold dEq; rw [toPy_ref h]
theorem ne_refL {n : Nat} {xs : List D} {d : D} (h : s[n]? = some (.lst xs)) : dNe (.ref n) d s = dNe (.lst xs) d s := by unfold dNe; rw [toPy_ref h]
theorem eq_refR {n : Nat} {xs : List D} {d : D} (h : s[n]? = some (.lst xs)) : dEq d (.ref n) s = dEq d (.lst xs) s := by unfold dEq; rw [toPy_ref h]
theorem ne_refR {n : Nat} {xs : List D} {d : D} (h : s[n]? = some (.lst xs)) : dNe d (.ref n) s = dNe d (.lst xs) s := by unfold dNe; rw [toPy_ref h]
end

/-! ### finished data stay as they are -/
structure FinOk {α : Type} (k : Nat) (enc : α → D) : Prop where
  fz : ∀ s n x, frzD s n k (enc x) = some (enc x)
  lt : ∀ n x, ltD n (enc x) = true
mutual
theorem frz_up {s : S} {n : Nat} : ∀ {k : Nat} {d d' : D}, frzD s n k d = some d' → frzD s n (k + 1) d = some d'
  | 0, _, _, h => by simp [frzD] at h
  | k + 1, .non, _, h => h
  | k + 1, .bl b, _, h => h
  | k + 1, .int i, _, h => h
  | k + 1, .str x, _, h => h
  | k + 1, .glo a, _, h => h
  | k + 1, .ty a, _, h => h
  | k + 1, .dic a, _, h => h
  | k + 1, .exn a b c, _, h => h
  | k + 1, .tup xs, d', h => by
    obtain ⟨ys, e, rfl⟩ := Option.map_eq_some_iff.mp (show (allD (frzD s n k) xs).map D.tup = some d' from h)
    show (allD (frzD s n (k + 1)) xs).map D.tup = _
    rw [frzs_up e]
    rfl
  | k + 1, .lst xs, d', h => by
    obtain ⟨ys, e, rfl⟩ := Option.map_eq_some_iff.mp (show (allD (frzD s n k) xs).map D.lst = some d' from h)
    show (allD (frzD s n (k + 1)) xs).map D.lst = _
    rw [frzs_up e]
    rfl
  | k + 1, .ins c fs, d', h => by
    obtain ⟨ys, e, rfl⟩ := Option.map_eq_some_iff.mp (show (allF (frzD s n k) fs).map (D.ins c) = some d' from h)
    show (allF (frzD s n (k + 1)) fs).map (D.ins c) = _
    rw [frzf_up e]
    rfl
  | k + 1, .ref m, d', h => by
    rw [frzD] at h ⊢
    by_cases hm : m < n
    · rw [if_pos hm] at h ⊢; exact h
    · rw [if_neg hm] at h ⊢
      cases e : s[m]? with
      | none => rw [e] at h; cases h
      | some o =>
        rw [e] at h
        cases o with
        | lst xs =>
          obtain ⟨ys, e, rfl⟩ := Option.map_eq_some_iff.mp h
          simp only
          rw [frzs_up e]
          rfl
        | ins c fs =>
          obtain ⟨ys, e, rfl⟩ := Option.map_eq_some_iff.mp h
          simp only
          rw [frzf_up e]
          rfl
        | dK kvs => cases h
theorem frzs_up {s : S} {n : Nat} : ∀ {k : Nat} {xs ys : List D}, allD (frzD s n k) xs = some ys → allD (frzD s n (k + 1)) xs = some ys
  | k, [], _, h => h
  | k, x :: xs, ys, h => by
    rw [allD] at h ⊢
    cases e1 : frzD s n k x with
    | none => rw [e1] at h; cases h
    | some y =>
      cases e2 : allD (frzD s n k) xs with
      | none => rw [e1, e2] at h; cases h
      | some zs => rw [e1, e2] at h; rw [frz_up e1, frzs_up e2]; exact h
theorem frzf_up {s : S} {n : Nat} : ∀ {k : Nat} {xs ys : List (Str × D)}, allF (frzD s n k) xs = some ys → allF (frzD s n (k + 1)) xs = some ys
  | k, [], _, h => h
  | k, (f, x) :: xs, ys, h => by
    rw [allF] at h ⊢
    cases e1 : frzD s n k x with
    | none => rw [e1] at h; cases h
    | some y =>
      cases e2 : allF (frzD s n k) xs with
      | none => rw [e1, e2] at h; cases h
      | some zs => rw [e1, e2] at h; rw [frz_up e1, frzf_up e2]; exact h
end
theorem frz_le {s : S} {n : Nat} {d d' : D} {j k : Nat} (h : j ≤ k) (e : frzD s n j d = some d') : frzD s n k d = some d' := by
  obtain ⟨i, rfl⟩ : ∃ i, k = j + i := ⟨k - j, by omega⟩
  clear h
  induction i with
  | zero => exact e
  | succ i ih => exact frz_up ih
section
variable {α β : Type} {k j : Nat} {enc : α → D} {enc2 : β → D}
theorem FinOk.up (h : FinOk k enc) (hj : k ≤ j) : FinOk j enc := ⟨fun s n x => frz_le hj (h.fz s n x), h.lt⟩
theorem fin_int : FinOk 1 D.int := ⟨fun _ _ _ => rfl, fun _ _ => rfl⟩
theorem fin_bl : FinOk 1 D.bl := ⟨fun _ _ _ => rfl, fun _ _ => rfl⟩
theorem fin_str : FinOk 1 (fun z : String => D.str (Str.ofString z)) := ⟨fun _ _ _ => rfl, fun _ _ => rfl⟩
theorem fin_tx : FinOk 1 (fun z : List Char => D.str (tx z)) := ⟨fun _ _ _ => rfl, fun _ _ => rfl⟩
theorem fin_all (h : FinOk k enc) {s : S} {n : Nat} : ∀ xs : List α, allD (frzD s n k) (xs.map enc) = some (xs.map enc)
  | [] => rfl
  | x :: xs => by rw [List.map_cons, allD, h.fz, fin_all h xs]
theorem fin_lts (h : FinOk k enc) {n : Nat} : ∀ xs : List α, ltDs n (xs.map enc) = true
  | [] => rfl
  | x :: xs => by rw [List.map_cons, ltDs, h.lt, fin_lts h xs]; rfl
theorem fin_lst (h : FinOk k enc) : FinOk (k + 1) (fun xs : List α => D.lst (xs.map enc)) :=
  ⟨fun s n x => by show (allD (frzD s n k) (x.map enc)).map D.lst = _; rw [fin_all h]; rfl, fun n x => by show ltDs n (x.map enc) = true; exact fin_lts h x⟩
theorem fin_tup (h : FinOk k enc) : FinOk (k + 1) (fun xs : List α => D.tup (xs.map enc)) :=
  ⟨fun s n x => by show (allD (frzD s n k) (x.map enc)).map D.tup = _; rw [fin_all h]; rfl, fun n x => by show ltDs n (x.map enc) = true; exact fin_lts h x⟩
theorem fin_pair (h : FinOk k enc) (h2 : FinOk k enc2) : FinOk (k + 1) (fun p : α × β => D.tup [enc p.1, enc2 p.2]) :=
  ⟨fun s n x => by show (allD (frzD s n k) [enc x.1, enc2 x.2]).map D.tup = _; simp only [allD, h.fz, h2.fz]; rfl, fun n x => by show ltDs n [enc x.1, enc2 x.2] = true; simp [ltDs, h.lt, h2.lt]⟩
end
/-- a list whose things are data -/
theorem stOk_app {s t : S} : stOk s.length (s ++ t) = stOk s.length s := by
  unfold stOk
  rw [List.take_left, List.take_length]
theorem take_app {s t : S} : (s ++ t).take s.length = s := List.take_left

/-! ### the store's end -/
theorem ofS_inj {x y : String} : (Str.ofString x = Str.ofString y) = (x = y) := propext ⟨fun h => by
  have := str_beq x y
  rw [h, beq_self_eq_true] at this
  exact beq_iff_eq.mp this.symm, congrArg _⟩
section
variable {s t : S} {a b c d o : O}
theorem e_at0 : (s ++ a :: t)[s.length]? = some a := by simp
theorem e_at1 : (s ++ a :: b :: t)[s.length + 1]? = some b := by rw [List.getElem?_append_right (by omega)]; simp
theorem e_at2 : (s ++ a :: b :: c :: t)[s.length + 2]? = some c := by rw [List.getElem?_append_right (by omega)]; simp
theorem e_at3 : (s ++ a :: b :: c :: d :: t)[s.length + 3]? = some d := by rw [List.getElem?_append_right (by omega)]; simp
theorem e_set0 : (s ++ a :: t).set s.length o = s ++ o :: t := by simp
theorem e_set1 : (s ++ a :: b :: t).set (s.length + 1) o = s ++ a :: o :: t := by rw [List.set_append_right _ _ (by omega)]; simp
theorem e_set2 : (s ++ a :: b :: c :: t).set (s.length + 2) o = s ++ a :: b :: o :: t := by rw [List.set_append_right _ _ (by omega)]; simp
theorem e_set3 : (s ++ a :: b :: c :: d :: t).set (s.length + 3) o = s ++ a :: b :: c :: o :: t := by rw [List.set_append_right _ _ (by omega)]; simp
end
mutual
theorem ltD_le {n k : Nat} (h : n ≤ k) : ∀ {d : D}, ltD n d = true → ltD k d = true
  | .ref m, e => by simp only [ltD, decide_eq_true_eq] at e ⊢; omega
  | .tup xs, e => ltDs_le h (show ltDs n xs = true from e)
  | .lst xs, e => ltDs_le h (show ltDs n xs = true from e)
  | .ins c fs, e => ltFs_le h (show ltFs n fs = true from e)
  | .dic fs, e => ltFs_le h (show ltFs n fs = true from e)
  | .exn _ _ _, e => e
  | .non, _ => rfl
  | .bl _, _ => rfl
  | .int _, _ => rfl
  | .str _, _ => rfl
  | .glo _, _ => rfl
  | .ty _, _ => rfl
theorem ltDs_le {n k : Nat} (h : n ≤ k) : ∀ {d : List D}, ltDs n d = true → ltDs k d = true
  | [], _ => rfl
  | x :: xs, e => by
    simp only [ltDs, Bool.and_eq_true] at e ⊢
    exact ⟨ltD_le h e.1, ltDs_le h e.2⟩
theorem ltFs_le {n k : Nat} (h : n ≤ k) : ∀ {d : List (Str × D)}, ltFs n d = true → ltFs k d = true
  | [], _ => rfl
  | (_, x) :: xs, e => by
    simp only [ltFs, Bool.and_eq_true] at e ⊢
    exact ⟨ltD_le h e.1, ltFs_le h e.2⟩
end
theorem ltO_le {n k : Nat} (h : n ≤ k) {o : O} (e : ltO n o = true) : ltO k o = true := by
  cases o with
  | lst xs => exact ltDs_le h e
  | ins c fs => exact ltFs_le h e
  | dK kvs => exact ltDs_le h e
theorem set_ge {s t : S} {i : Nat} {o : O} : (s ++ t).set (s.length + i) o = s ++ t.set i o := by
  rw [List.set_append_right _ _ (by omega), Nat.add_sub_cancel_left]
theorem at_ge {s t : S} {i : Nat} : (s ++ t)[s.length + i]? = t[i]? := by
  rw [List.getElem?_append_right (by omega), Nat.add_sub_cancel_left]
/-! ### lists, finished or not -/
section
variable {s : S} {Q : D → S → Prop} {E : D → S → Prop} {x y : D} {xs ys : List D}
theorem w_addLv (hx : lview s x = some xs) (hy : lview s y = some ys) : wp (dAdd x y s) Q E = (xs.length + ys.length ≤ sizeLine ∧ Q (.lst (xs ++ ys)) s) := by
  have e : dAdd x y s = if xs.length + ys.length ≤ sizeLine then .ok (.lst (xs ++ ys)) s else .bad := by
    cases x <;> first
      | (simp only [lview] at hx; cases hx; done)
      | (cases y <;> first
          | (simp only [lview] at hy; cases hy; done)
          | (simp only [dAdd, hx, hy]))
  rw [e]
  exact wp_ifb'
theorem w_slLv {lo hi : Option Int} (hx : lview s x = some xs) : wp (dSl lo hi x s) Q E = Q (.lst (dCut xs lo hi)) s := by
  have e : dSl lo hi x s = .ok (.lst (dCut xs lo hi)) s := by
    cases x <;> first
      | (simp only [lview] at hx; cases hx; done)
      | (simp only [dSl, hx])
  rw [e]
  exact wp_ok
theorem w_ixLv {i : Int} (hx : lview s x = some xs) : wp (dIx x (.int i) s) Q E = match atI xs i with | some d => Q d s | none => False := by
  cases x <;> first
    | (simp only [lview] at hx; cases hx; done)
    | (simp only [lview] at hx; cases hx; exact w_ix)
    | skip
  rename_i n
  simp only [lview] at hx
  split at hx
  · rename_i l e
    cases hx
    exact w_ixR e
  · cases hx
theorem w_lenLv (hx : lview s x = some xs) : wp (dLen [x] s) Q E = Q (.int xs.length) s := by
  cases x <;> first
    | (simp only [lview] at hx; cases hx; done)
    | (simp only [lview] at hx; cases hx; exact w_len)
    | skip
  rename_i n
  simp only [lview] at hx
  split at hx
  · rename_i l e
    cases hx
    exact w_lenR e
  · cases hx
theorem cut_from {a : Nat} : dCut xs (some (a : Int)) none = xs.drop a := by
  unfold dCut
  rw [HT.sIx_nat, HT.sIx_none, List.take_of_length_le (by rw [List.length_drop]; omega)]
  by_cases h : a ≤ xs.length
  · rw [Nat.min_eq_left h]
  · rw [Nat.min_eq_right (by omega), List.drop_length, List.drop_eq_nil_of_le (by omega)]
theorem cut_to {b : Nat} : dCut xs none (some (b : Int)) = xs.take b := by
  unfold dCut
  rw [HT.sIx_nat, HT.sIx_none, List.drop_zero, Nat.sub_zero]
  by_cases h : b ≤ xs.length
  · rw [Nat.min_eq_left h]
  · rw [Nat.min_eq_right (by omega), List.take_length, List.take_of_length_le (by omega)]
theorem cut_mid {a b : Nat} : dCut xs (some (a : Int)) (some (b : Int)) = (xs.drop a).take (b - a) := by
  unfold dCut
  rw [HT.sIx_nat, HT.sIx_nat]
  by_cases h : a ≤ xs.length
  · rw [Nat.min_eq_left h]
    by_cases h2 : b ≤ xs.length
    · rw [Nat.min_eq_left h2]
    · rw [Nat.min_eq_right (by omega), List.take_of_length_le (by rw [List.length_drop]; omega), List.take_of_length_le (by rw [List.length_drop]; omega)]
  · have e : min a xs.length = xs.length := Nat.min_eq_right (by omega)
    rw [e, List.drop_length, List.drop_eq_nil_of_le (by omega : xs.length ≤ a)]
    simp
end
/-! ### the deck and what stands behind it -/
section
variable {s t : S}
theorem Dk.get {q : Nat} (h : Dk s t) : s[q + 1]? = t[q]? := by
  obtain ⟨L, rfl, _⟩ := h
  rfl
theorem Dk.len (h : Dk s t) : s.length = t.length + 1 := by
  obtain ⟨L, rfl, _⟩ := h
  rfl
theorem Dk.app {u : S} (h : Dk s t) : Dk (s ++ u) (t ++ u) := by
  obtain ⟨L, rfl, hL⟩ := h
  exact ⟨L, rfl, hL⟩
theorem Dk.set {q : Nat} {o : O} (h : Dk s t) : Dk (s.set (q + 1) o) (t.set q o) := by
  obtain ⟨L, rfl, hL⟩ := h
  exact ⟨L, rfl, hL⟩
end
theorem andK_i {c : Bool} {f : (Bool → S → Prop) → Prop} {Q : Bool → S → Prop} {s : S} (h1 : c = true → f Q) (h2 : c = false → Q false s) : andK c f Q s := by
  cases c
  · exact h2 rfl
  · exact h1 rfl
theorem orK_i {c : Bool} {f : (Bool → S → Prop) → Prop} {Q : Bool → S → Prop} {s : S} (h1 : c = true → Q true s) (h2 : c = false → f Q) : orK c f Q s := by
  cases c
  · exact h2 rfl
  · exact h1 rfl
/-- two ways meet -/
theorem ite_join {X P : D → S → Prop} {E : D → S → Prop} {c : Prop} [Decidable c] {r : R D} {d0 : D} {s0 : S} (h1 : c → wp r P E) (h2 : ¬ c → P d0 s0) (h3 : ∀ d s, P d s → X d s) : if c then wp r X E else X d0 s0 := by
  split
  · exact wp_mono (h1 ‹_›) h3
  · exact h3 _ _ (h2 ‹_›)
end Pm
namespace K11
open PySem PySem.Spec PyProof.Rows L2 Pm
noncomputable section
def top (i : Nat) : Stmt := PySem.Challenge.pw_gluebridge_k11_text_recipes.main.body.getD i (.Pass ⟨0, 0, 0, 0⟩)
abbrev s_law_deck : Stmt := (top 24)
abbrev s_law_take : Stmt := (top 25)
abbrev s_law_text_order : Stmt := (top 27)
abbrev s_law_text_recipe : Stmt := (top 28)
abbrev s_check_letters : Stmt := (top 21)
abbrev s_shape_of : Stmt := (top 18)
abbrev s_fits : Stmt := (top 17)
abbrev s_allowed : Stmt := (top 19)
abbrev s_check_orders : Stmt := (top 20)
abbrev s_TextRecipe_init : Stmt := (inClass (top 22) 0)
abbrev s_law_texts : Stmt := (top 31)
abbrev s_law_plain : Stmt := (top 26)
abbrev s_Speller_init : Stmt := (inClass (top 3) 0)
abbrev s_Speller_do : Stmt := (inClass (top 3) 2)
abbrev s_Speller_skipped : Stmt := (inClass (top 3) 3)
abbrev s_Speller_execute : Stmt := (inClass (top 3) 4)
abbrev s_text_image : Stmt := (top 4)
abbrev s_law_part : Stmt := (top 29)
abbrev s_law_spelt : Stmt := (top 30)
abbrev s_law : Stmt := (top 32)
def d_BODY_ORDERS : D := (.dic [("sign", (.str "lk")), ("echo", (.str "")), ("keep", (.str "")), ("kept", (.str "lk")), ("pay", (.str "")), ("write", (.str "w")), ("raise", (.str "f")), ("lower", (.str "f")), ("up", (.str "fk")), ("down", (.str "fk")), ("skip", (.str "k")), ("next", (.str "")), ("lose", (.str ""))])
def c_BODY_ORDERS : ME := mC d_BODY_ORDERS
def d_BOUNDS : D := (.dic [("r", (.int 8)), ("f", (.int 4))])
def c_BOUNDS : ME := mC d_BOUNDS
def d_FINISH_ORDERS : D := (.dic [("kept", (.str "lk")), ("pay", (.str "")), ("write", (.str "w")), ("raise", (.str "f")), ("lower", (.str "f")), ("up", (.str "fk")), ("down", (.str "fk")), ("skip", (.str "k")), ("next", (.str "")), ("lose", (.str ""))])
def c_FINISH_ORDERS : ME := mC d_FINISH_ORDERS
def d_FLAGS : D := (.int 4)
def c_FLAGS : ME := mC d_FLAGS
def d_LETTERS : D := (.str "abcdefghijklmnopqrstuvwxyz")
def c_LETTERS : ME := mC d_LETTERS
def d_MOST_DIVISOR : D := (.int 6)
def c_MOST_DIVISOR : ME := mC d_MOST_DIVISOR
def d_MOST_ORDERS : D := (.int 400)
def c_MOST_ORDERS : ME := mC d_MOST_ORDERS
def d_NUMBER_ORDERS : D := (.dic [("put", (.str "rn")), ("copy", (.str "rr")), ("add", (.str "rrr")), ("times", (.str "rrn")), ("over", (.str "rd")), ("rest", (.str "rd")), ("less", (.str "rrk")), ("same", (.str "rrk")), ("skip", (.str "k")), ("answer", (.str "r")), ("lose", (.str ""))])
def c_NUMBER_ORDERS : ME := mC d_NUMBER_ORDERS
/-- _law_deck: 0 script, 1 cells, 2 each, 3 deck, 4 seed, 5 k, 6 cell, 7 rest, 8 at -/
def m_law_deck : MS := (ssCons (sSet 3 (mN dNew aNil))
  (ssCons (sSet 4 (m2 dAdd (mC (.int 7)) (mN dLen (aCons (mVar 0) aNil))))
  (ssCons (sFor (iRange1 (mVar 1)) (gSlot 5)
  (ssCons (sSet 6 (mC (.int 0)))
  (ssCons (sIf (tBool (m2 dLt (mVar 5) (mN dLen (aCons (mVar 0) aNil))))
  (sSet 6 (m2 dIx (mVar 0) (mVar 5)))
  ssNil)
  (ssCons (sSet 7 (mN dAbs (aCons (mVar 6) aNil)))
  (sIf (tBool (m2 dGe (mVar 7) (m2 dPow (mC (.int 10)) (mC (.int 30)))))
  (sFor (iRange1 (mVar 2)) (gSlot 8)
  (ssCons (sExpr (mMt "list" dAppend (mVar 3) (aCons (m2 dMod (mN dInt (aCons (mVar 7) aNil)) (mC (.int 1000003))) aNil)))
  (sSet 7 (m2 dFdiv (mVar 7) (mC (.int 1000003))))))
  (ssCons (sSet 4 (m2 dMod (mN dInt (aCons (m2 dAdd (m2 dAdd (m2 dAdd (m2 dMul (mVar 4) (mC (.int 48271))) (m2 dMul (mC (.int 2)) (mVar 7))) (mN dInt (aCons (m2 dLt (mVar 6) (mC (.int 0))) aNil))) (mVar 5)) aNil)) (mC (.int 2147483647))))
  (sFor (iRange1 (mVar 2)) (gSlot 8)
  (ssCons (sSet 4 (m2 dMod (mN dInt (aCons (m2 dAdd (m2 dAdd (m2 dMul (mVar 4) (mC (.int 69621))) (mVar 8)) (mC (.int 1))) aNil)) (mC (.int 2147483629))))
  (sExpr (mMt "list" dAppend (mVar 3) (aCons (m2 dMod (mN dInt (aCons (m2 dFdiv (mVar 4) (mC (.int 5))) aNil)) (mC (.int 1000003))) aNil)))))))))))
  (ssCons (sExpr (mMt "list" dReverse (mVar 3) aNil))
  (sRet (mVar 3))))))
def f_law_deck : List D → S → R D := mkFn 3 9 m_law_deck
theorem ar_law_deck : ∀ ds s, ds.length ≠ 3 → f_law_deck ds s = .bad := mkFn_arity
/-- _law_take: 0 deck, 1 many -/
def m_law_take : MS := (ssCons (sIf (tBool (m2 dEq (mN dLen (aCons (mVar 0) aNil)) (mC (.int 0))))
  (sRet (mC (.int 0)))
  ssNil)
  (sRet (m2 dMod (mN dInt (aCons (mMt "list" dPop (mVar 0) aNil) aNil)) (mVar 1))))
def f_law_take : List D → S → R D := mkFn 2 2 m_law_take
theorem ar_law_take : ∀ ds s, ds.length ≠ 2 → f_law_take ds s = .bad := mkFn_arity
/-- _law_text_order: 0 deck, 1 letters, 2 behind, 3 is_body, 4 words, 5 word, 6 skips, 7 flag -/
def m_law_text_order : MS := (ssCons (sSet 4 (mC (.str "sign sign sign echo echo keep keep kept kept pay pay write write raise raise lower up up down skip next")))
  (ssCons (sSet 5 (m2 dIx (mMt "str" dSplit (m2 dAdd (mVar 4) (mC (.str " lose"))) (aCons (mC (.str " ")) aNil)) (mN f_law_take (aCons (mVar 0) (aCons (mC (.int 22)) aNil)))))
  (ssCons (sSet 6 (mN dMin2 (aCons (mVar 2) (aCons (m2 dIx (mN dLst (aCons (mC (.int 0)) (aCons (mC (.int 1)) (aCons (mC (.int 1)) (aCons (mC (.int 2)) (aCons (mC (.int 3)) (aCons (mN f_law_take (aCons (mVar 0) (aCons (mC (.int 9)) aNil))) aNil))))))) (mN f_law_take (aCons (mVar 0) (aCons (mC (.int 6)) aNil)))) aNil))))
  (ssCons (sSet 7 (m2 dIx (mN dLst (aCons (mC (.int 0)) (aCons (mC (.int 0)) (aCons (mC (.int 1)) (aCons (mC (.int 1)) (aCons (mC (.int 2)) (aCons (mC (.int 3)) aNil))))))) (mN f_law_take (aCons (mVar 0) (aCons (mC (.int 6)) aNil)))))
  (ssCons (sIf (tOr2 (tAnd2 (tBool (m2 dIn (mVar 5) (mN dLst (aCons (mC (.str "sign")) (aCons (mC (.str "echo")) (aCons (mC (.str "keep")) aNil)))))) (tNot1 (tTru dTru (mVar 3)))) (tAnd2 (tBool (m2 dIn (mVar 5) (mN dLst (aCons (mC (.str "sign")) (aCons (mC (.str "kept")) aNil))))) (tBool (m2 dEq (mN dLen (aCons (mVar 1) aNil)) (mC (.int 0))))))
  (sSet 5 (mC (.str "pay")))
  ssNil)
  (ssCons (sIf (tBool (m2 dIn (mVar 5) (mN dLst (aCons (mC (.str "sign")) (aCons (mC (.str "kept")) aNil)))))
  (sRet (mN dTup (aCons (mVar 5) (aCons (m2 dIx (mVar 1) (mN f_law_take (aCons (mVar 0) (aCons (mN dLen (aCons (mVar 1) aNil)) aNil)))) (aCons (mVar 6) aNil)))))
  ssNil)
  (ssCons (sIf (tBool (m2 dEq (mVar 5) (mC (.str "write"))))
  (sRet (mN dTup (aCons (mVar 5) (aCons (m2 dIx (mN dLst (aCons (mC (.str "")) (aCons (mC (.str "x")) (aCons (mC (.str "y")) (aCons (mC (.str "xy")) (aCons (mC (.str "ab")) aNil)))))) (mN f_law_take (aCons (mVar 0) (aCons (mC (.int 5)) aNil)))) aNil))))
  ssNil)
  (ssCons (sIf (tBool (m2 dIn (mVar 5) (mN dLst (aCons (mC (.str "raise")) (aCons (mC (.str "lower")) aNil)))))
  (sRet (mN dTup (aCons (mVar 5) (aCons (mVar 7) aNil))))
  ssNil)
  (ssCons (sIf (tBool (m2 dIn (mVar 5) (mN dLst (aCons (mC (.str "up")) (aCons (mC (.str "down")) aNil)))))
  (sRet (mN dTup (aCons (mVar 5) (aCons (mVar 7) (aCons (mVar 6) aNil)))))
  ssNil)
  (ssCons (sIf (tBool (m2 dEq (mVar 5) (mC (.str "skip"))))
  (sRet (mN dTup (aCons (mVar 5) (aCons (mVar 6) aNil))))
  ssNil)
  (ssCons (sIf (tAnd2 (tBool (m2 dEq (mVar 5) (mC (.str "lose")))) (tBool (m2 dGt (mN f_law_take (aCons (mVar 0) (aCons (mC (.int 3)) aNil))) (mC (.int 0)))))
  (sRet (mN dTup (aCons (mC (.str "write")) (aCons (mC (.str "z")) aNil))))
  ssNil)
  (sRet (mN dTup (aCons (mVar 5) aNil))))))))))))))
def f_law_text_order : List D → S → R D := mkFn 4 8 m_law_text_order
theorem ar_law_text_order : ∀ ds s, ds.length ≠ 4 → f_law_text_order ds s = .bad := mkFn_arity
/-- _law_text_recipe: 0 deck, 1 letters, 2 sizes, 3 size, 4 body, 5 at -/
def m_law_text_recipe : MS := (ssCons (sSet 1 (m2 dIx (mN dLst (aCons (mC (.str "a")) (aCons (mC (.str "ab")) (aCons (mC (.str "ba")) (aCons (mC (.str "cab")) (aCons (mC (.str "dabc")) (aCons (mC (.str "")) aNil))))))) (mN f_law_take (aCons (mVar 0) (aCons (mC (.int 6)) aNil)))))
  (ssCons (sSet 2 (mN dLst (aCons (mN f_law_take (aCons (mVar 0) (aCons (mC (.int 6)) aNil))) (aCons (m2 dAdd (mC (.int 4)) (mN f_law_take (aCons (mVar 0) (aCons (mC (.int 14)) aNil)))) (aCons (mN f_law_take (aCons (mVar 0) (aCons (mC (.int 30)) aNil))) aNil)))))
  (ssCons (sSet 3 (m2 dIx (mVar 2) (mN f_law_take (aCons (mVar 0) (aCons (mC (.int 3)) aNil)))))
  (ssCons (sSet 4 (mLc (iRange1 (mVar 3)) (gSlot 5) tAll (mN f_law_text_order (aCons (mVar 0) (aCons (mVar 1) (aCons (m2 dSub (m2 dSub (mVar 3) (mVar 5)) (mC (.int 1))) (aCons (mC (.bl true)) aNil))))) [5]))
  (ssCons (sSet 3 (mN f_law_take (aCons (mVar 0) (aCons (mC (.int 8)) aNil))))
  (sRet (mN dTup (aCons (mVar 1) (aCons (mVar 4) (aCons (mLc (iRange1 (mVar 3)) (gSlot 5) tAll (mN f_law_text_order (aCons (mVar 0) (aCons (mVar 1) (aCons (m2 dSub (m2 dSub (mVar 3) (mVar 5)) (mC (.int 1))) (aCons (mC (.bl false)) aNil))))) [5]) aNil))))))))))
def f_law_text_recipe : List D → S → R D := mkFn 1 6 m_law_text_recipe
theorem ar_law_text_recipe : ∀ ds s, ds.length ≠ 1 → f_law_text_recipe ds s = .bad := mkFn_arity
/-- check_letters: 0 letters, 1 at -/
def m_check_letters : MS := (sFor (iRange1 (mN dLen (aCons (mVar 0) aNil))) (gSlot 1)
  (sIf (tOr2 (tBool (m2 dNotIn (m2 dIx (mVar 0) (mVar 1)) c_LETTERS)) (tBool (m2 dIn (m2 dIx (mVar 0) (mVar 1)) (mSl (mVar 0) oNone (oSome (mVar 1))))))
  sNever
  ssNil))
def f_check_letters : List D → S → R D := mkFn 1 2 m_check_letters
theorem ar_check_letters : ∀ ds s, ds.length ≠ 1 → f_check_letters ds s = .bad := mkFn_arity
/-- shape_of: 0 part, 1 word -/
def m_shape_of : MS := (ssCons (sIf (tBool (m2 dEq (mVar 0) (mC (.str "orders"))))
  (sRet (mGet c_NUMBER_ORDERS (mVar 1)))
  ssNil)
  (ssCons (sIf (tBool (m2 dEq (mVar 0) (mC (.str "body"))))
  (sRet (mGet c_BODY_ORDERS (mVar 1)))
  ssNil)
  (sRet (mGet c_FINISH_ORDERS (mVar 1)))))
def f_shape_of : List D → S → R D := mkFn 2 2 m_shape_of
theorem ar_shape_of : ∀ ds s, ds.length ≠ 2 → f_shape_of ds s = .bad := mkFn_arity
/-- fits: 0 letter, 1 operand, 2 behind, 3 letters -/
def m_fits : MS := (ssCons (sIf (tBool (m2 dIn (mVar 0) c_BOUNDS))
  (sRet (mChain dLe dLt (mC (.int 0)) (mVar 1) (m2 dIx c_BOUNDS (mVar 0))))
  ssNil)
  (ssCons (sIf (tBool (m2 dEq (mVar 0) (mC (.str "d"))))
  (sRet (mChain dLe dLe (mC (.int 1)) (mVar 1) c_MOST_DIVISOR))
  ssNil)
  (ssCons (sIf (tBool (m2 dEq (mVar 0) (mC (.str "k"))))
  (sRet (mChain dLe dLe (mC (.int 0)) (mVar 1) (mVar 2)))
  ssNil)
  (ssCons (sIf (tBool (m2 dEq (mVar 0) (mC (.str "l"))))
  (sRet (mAnd (m2 dEq (mN dLen (aCons (mVar 1) aNil)) (mC (.int 1))) (m2 dIn (mVar 1) (mVar 3))))
  ssNil)
  (sRet (mC (.bl true)))))))
def f_fits : List D → S → R D := mkFn 4 4 m_fits
theorem ar_fits : ∀ ds s, ds.length ≠ 4 → f_fits ds s = .bad := mkFn_arity
/-- allowed: 0 order, 1 part, 2 behind, 3 letters, 4 shape, 5 letter, 6 operand -/
def m_allowed : MS := (ssCons (sIf (tBool (m2 dEq (mN dLen (aCons (mVar 0) aNil)) (mC (.int 0))))
  (sRet (mC (.bl false)))
  ssNil)
  (ssCons (sSet 4 (mN f_shape_of (aCons (mVar 1) (aCons (m2 dIx (mVar 0) (mC (.int 0))) aNil))))
  (ssCons (sIf (tOr2 (tBool (m2 dIs (mVar 4) (mC .non))) (tBool (m2 dNe (mN dLen (aCons (mVar 0) aNil)) (m2 dAdd (mN dLen (aCons (mVar 4) aNil)) (mC (.int 1))))))
  (sRet (mC (.bl false)))
  ssNil)
  (ssCons (sFor (iZipD (mVar 4) (mSl (mVar 0) (oSome (mC (.int 1))) oNone)) (gTupD 2 (gsCons (gSlot 5) (gsCons (gSlot 6) gsNil)))
  (sIf (tNot1 (tTru dTru (mN f_fits (aCons (mVar 5) (aCons (mVar 6) (aCons (mVar 2) (aCons (mVar 3) aNil)))))))
  (sRet (mC (.bl false)))
  ssNil))
  (sRet (mC (.bl true)))))))
def f_allowed : List D → S → R D := mkFn 4 7 m_allowed
theorem ar_allowed : ∀ ds s, ds.length ≠ 4 → f_allowed ds s = .bad := mkFn_arity
/-- check_orders: 0 part, 1 orders, 2 letters, 3 at -/
def m_check_orders : MS := (sFor (iRange1 (mN dLen (aCons (mVar 1) aNil))) (gSlot 3)
  (sIf (tNot1 (tTru dTru (mN f_allowed (aCons (m2 dIx (mVar 1) (mVar 3)) (aCons (mVar 0) (aCons (m2 dSub (m2 dSub (mN dLen (aCons (mVar 1) aNil)) (mVar 3)) (mC (.int 1))) (aCons (mVar 2) aNil)))))))
  sNever
  ssNil))
def f_check_orders : List D → S → R D := mkFn 3 4 m_check_orders
theorem ar_check_orders : ∀ ds s, ds.length ≠ 3 → f_check_orders ds s = .bad := mkFn_arity
/-- TextRecipe.__init__: 0 self, 1 letters, 2 body, 3 finish -/
def m_TextRecipe_init : MS := (ssCons (sIf (tBool (m2 dGt (m2 dAdd (mN dLen (aCons (mVar 2) aNil)) (mN dLen (aCons (mVar 3) aNil))) c_MOST_ORDERS))
  sNever
  ssNil)
  (ssCons (sExpr (mN f_check_letters (aCons (mVar 1) aNil)))
  (ssCons (sExpr (mN f_check_orders (aCons (mC (.str "body")) (aCons (mVar 2) (aCons (mVar 1) aNil)))))
  (ssCons (sExpr (mN f_check_orders (aCons (mC (.str "finish")) (aCons (mVar 3) (aCons (mVar 1) aNil)))))
  (ssCons (sFldD "letters" ["TextRecipe"] (mVar 0) (mVar 1))
  (ssCons (sFldD "body" ["TextRecipe"] (mVar 0) (mN (dList false) (aCons (mVar 2) aNil)))
  (sFldD "finish" ["TextRecipe"] (mVar 0) (mN (dList false) (aCons (mVar 3) aNil)))))))))
def f_TextRecipe_init : List D → S → R D := mkFn 4 4 m_TextRecipe_init
theorem ar_TextRecipe_init : ∀ ds s, ds.length ≠ 4 → f_TextRecipe_init ds s = .bad := mkFn_arity
/-- _law_texts: 0 deck, 1 letters, 2 texts, 3 layer, 4 size, 5 longer, 6 text, 7 signs, 8 turn, 9 at, 10 letter -/
def m_law_texts : MS := (ssCons (sSet 2 (mN dNew (aCons (mC (.str "")) aNil)))
  (ssCons (sSet 3 (mN dLst (aCons (mC (.str "")) aNil)))
  (ssCons (sFor (iRange1 (mC (.int 3))) (gSlot 4)
  (ssCons (sSet 5 (mN dNew aNil))
  (ssCons (sFor (iAny (mVar 3)) (gSlot 6)
  (sExpr (mMt "list" dExtend (mVar 5) (aCons (mLcN (iAny (mVar 1)) (gSlot 10) tAll (m2 dAdd (mVar 6) (mVar 10)) [10]) aNil))))
  (ssCons (sSet 3 (mVar 5))
  (sSet 2 (m2 dAddN (mVar 2) (mVar 3)))))))
  (ssCons (sSet 7 (m2 dAdd (mVar 1) (m2 dMulS (mC (.str "q")) (mN dInt (aCons (m2 dEq (mN f_law_take (aCons (mVar 0) (aCons (mC (.int 4)) aNil))) (mC (.int 0))) aNil)))))
  (ssCons (sFor (iRange1 (mC (.int 12))) (gSlot 8)
  (ssCons (sSet 6 (mC (.str "")))
  (ssCons (sFor (iRange1 (m2 dMul (mN f_law_take (aCons (mVar 0) (aCons (mC (.int 41)) aNil))) (mN dInt (aCons (m2 dGt (mN dLen (aCons (mVar 7) aNil)) (mC (.int 0))) aNil)))) (gSlot 9)
  (sSet 6 (m2 dAdd (mVar 6) (m2 dIx (mVar 7) (mN f_law_take (aCons (mVar 0) (aCons (mN dLen (aCons (mVar 7) aNil)) aNil)))))))
  (sExpr (mMt "list" dAppend (mVar 2) (aCons (mVar 6) aNil))))))
  (sRet (mVar 2)))))))
def f_law_texts : List D → S → R D := mkFz (mkFn 2 11 m_law_texts)
theorem ar_law_texts : ∀ ds s, ds.length ≠ 2 → f_law_texts ds s = .bad := mkFz_arity mkFn_arity
/-- _law_plain: 0 value, 1 item -/
def m_law_plain (G : List D → S → R D) : MS := (ssCons (sIf (tTru dTru (mIsi ["tuple", "list"] (mVar 0)))
  (sRet (m2 dAdd (mN dLst (aCons (mIsi ["list"] (mVar 0)) aNil)) (mLc (iAny (mVar 0)) (gSlot 1) tAll (mN G (aCons (mVar 1) aNil)) [1])))
  ssNil)
  (ssCons (sIf (tOr2 (tBool (m2 dIs (mVar 0) (mC .non))) (tTru dTru (mIsi ["bool"] (mVar 0))))
  (sRet (m2 dIx (mN dLst (aCons (mC (.str "None")) (aCons (mC (.str "False")) (aCons (mC (.str "True")) aNil)))) (m2 dAdd (mN dInt (aCons (m2 dIsNot (mVar 0) (mC .non)) aNil)) (mN dInt (aCons (m2 dIs (mVar 0) (mC (.bl true))) aNil)))))
  ssNil)
  (ssCons (sIf (tTru dTru (mIsi ["int", "str"] (mVar 0)))
  (sRet (mN dLst (aCons (mIsi ["str"] (mVar 0)) (aCons (mVar 0) aNil))))
  ssNil)
  (sRet (mC (.str "another"))))))
def fn_law_plain : Nat → List D → S → R D
  | 0 => mkFn 1 2 sNever
  | k + 1 => mkFn 1 2 (m_law_plain (fn_law_plain k))
theorem arn_law_plain : ∀ k ds s, ds.length ≠ 1 → fn_law_plain k ds s = .bad
  | 0 => mkFn_arity
  | k + 1 => mkFn_arity
def f_law_plain : List D → S → R D := fn_law_plain 8
theorem ar_law_plain : ∀ ds s, ds.length ≠ 1 → f_law_plain ds s = .bad := arn_law_plain _
/-- Speller.__init__: 0 self, 1 flags, 2 kept -/
def m_Speller_init : MS := (ssCons (sFldD "flags" ["Speller"] (mVar 0) (mN (dList true) (aCons (mVar 1) aNil)))
  (ssCons (sFldD "kept" ["Speller"] (mVar 0) (mVar 2))
  (sFldD "written" ["Speller"] (mVar 0) (mC (.str "")))))
def f_Speller_init : List D → S → R D := mkFn 3 3 m_Speller_init
theorem ar_Speller_init : ∀ ds s, ds.length ≠ 3 → f_Speller_init ds s = .bad := mkFn_arity
/-- Speller.do: 0 self, 1 order, 2 sign, 3 word -/
def m_Speller_do : MS := (ssCons (sSet 3 (m2 dIx (mVar 1) (mC (.int 0))))
  (sIf (tBool (m2 dEq (mVar 3) (mC (.str "echo"))))
  (sFldAugD "written" ["Speller"] dIAdd (mVar 0) (mVar 2))
  (sIf (tBool (m2 dEq (mVar 3) (mC (.str "keep"))))
  (sFldD "kept" ["Speller"] (mVar 0) (mVar 2))
  (sIf (tBool (m2 dEq (mVar 3) (mC (.str "pay"))))
  (ssCons (sFldAugD "written" ["Speller"] dIAdd (mVar 0) (mFld "kept" ["Speller"] (mVar 0)))
  (sFldD "kept" ["Speller"] (mVar 0) (mC (.str ""))))
  (sIf (tBool (m2 dEq (mVar 3) (mC (.str "write"))))
  (sFldAugD "written" ["Speller"] dIAdd (mVar 0) (m2 dIx (mVar 1) (mC (.int 1))))
  (sIf (tBool (m2 dIn (mVar 3) (mN dTup (aCons (mC (.str "raise")) (aCons (mC (.str "lower")) aNil)))))
  (sAsg (m2 dEq (mVar 3) (mC (.str "raise"))) (gSubD (mFld "flags" ["Speller"] (mVar 0)) (m2 dIx (mVar 1) (mC (.int 1)))))
  ssNil))))))
def f_Speller_do : List D → S → R D := mkFn 3 4 m_Speller_do
theorem ar_Speller_do : ∀ ds s, ds.length ≠ 3 → f_Speller_do ds s = .bad := mkFn_arity
/-- Speller.skipped: 0 self, 1 order, 2 sign, 3 word -/
def m_Speller_skipped : MS := (ssCons (sSet 3 (m2 dIx (mVar 1) (mC (.int 0))))
  (ssCons (sIf (tBool (m2 dEq (mVar 3) (mC (.str "skip"))))
  (sRet (m2 dIx (mVar 1) (mC (.int 1))))
  ssNil)
  (ssCons (sIf (tOr2 (tAnd2 (tBool (m2 dEq (mVar 3) (mC (.str "sign")))) (tBool (m2 dNe (m2 dIx (mVar 1) (mC (.int 1))) (mVar 2)))) (tAnd2 (tBool (m2 dEq (mVar 3) (mC (.str "kept")))) (tBool (m2 dNe (m2 dIx (mVar 1) (mC (.int 1))) (mFld "kept" ["Speller"] (mVar 0))))))
  (sRet (m2 dIx (mVar 1) (mC (.int 2))))
  ssNil)
  (ssCons (sIf (tOr2 (tAnd2 (tBool (m2 dEq (mVar 3) (mC (.str "up")))) (tNot1 (tTru dTru (m2 dIx (mFld "flags" ["Speller"] (mVar 0)) (m2 dIx (mVar 1) (mC (.int 1))))))) (tAnd2 (tBool (m2 dEq (mVar 3) (mC (.str "down")))) (tTru dTru (m2 dIx (mFld "flags" ["Speller"] (mVar 0)) (m2 dIx (mVar 1) (mC (.int 1)))))))
  (sRet (m2 dIx (mVar 1) (mC (.int 2))))
  ssNil)
  (sRet (mC (.int 0)))))))
def f_Speller_skipped : List D → S → R D := mkFn 3 4 m_Speller_skipped
theorem ar_Speller_skipped : ∀ ds s, ds.length ≠ 3 → f_Speller_skipped ds s = .bad := mkFn_arity
/-- Speller.execute: 0 self, 1 orders, 2 sign, 3 path, 4 at, 5 order -/
def m_Speller_execute : MS := (ssCons (sSet 3 (mN dNew aNil))
  (ssCons (sSet 4 (mC (.int 0)))
  (ssCons (sWhile (tBool (m2 dLt (mVar 4) (mN dLen (aCons (mVar 1) aNil))))
  (ssCons (sSet 5 (m2 dIx (mVar 1) (mVar 4)))
  (ssCons (sExpr (mMt "list" dAppend (mVar 3) (aCons (mVar 4) aNil)))
  (ssCons (sIf (tBool (m2 dIn (m2 dIx (mVar 5) (mC (.int 0))) (mN dTup (aCons (mC (.str "next")) (aCons (mC (.str "lose")) aNil)))))
  (sRet (mN dTup (aCons (mVar 3) (aCons (m2 dEq (m2 dIx (mVar 5) (mC (.int 0))) (mC (.str "next"))) aNil))))
  ssNil)
  (ssCons (sExpr (mMeth "do" [("Speller", f_Speller_do)] (mVar 0) (aCons (mVar 5) (aCons (mVar 2) aNil))))
  (sAug 4 dIAdd (m2 dAdd (mC (.int 1)) (mMeth "skipped" [("Speller", f_Speller_skipped)] (mVar 0) (aCons (mVar 5) (aCons (mVar 2) aNil))))))))))
  (sRet (mN dTup (aCons (mVar 3) (aCons (mC (.bl true)) aNil)))))))
def f_Speller_execute : List D → S → R D := mkFz (mkFn 3 6 m_Speller_execute)
theorem ar_Speller_execute : ∀ ds s, ds.length ≠ 3 → f_Speller_execute ds s = .bad := mkFz_arity mkFn_arity
/-- text_image: 0 recipe, 1 text, 2 speller, 3 sign -/
def m_text_image : MS := (ssCons (sSet 2 (mMake "Speller" f_Speller_init (aCons (mRep (aCons (mC (.bl false)) aNil) c_FLAGS false) (aCons (mC (.str "")) aNil))))
  (ssCons (sFor (iAny (mVar 1)) (gSlot 3)
  (sIf (tOr2 (tBool (m2 dNotIn (mVar 3) (mFld "letters" ["TextRecipe"] (mVar 0)))) (tNot1 (tTru dTru (m2 dIx (mMeth "execute" [("Speller", f_Speller_execute)] (mVar 2) (aCons (mFld "body" ["TextRecipe"] (mVar 0)) (aCons (mVar 3) aNil))) (mC (.int 1))))))
  (sRet (mC .non))
  ssNil))
  (ssCons (sIf (tNot1 (tTru dTru (m2 dIx (mMeth "execute" [("Speller", f_Speller_execute)] (mVar 2) (aCons (mFld "finish" ["TextRecipe"] (mVar 0)) (aCons (mC (.str "")) aNil))) (mC (.int 1)))))
  (sRet (mC .non))
  ssNil)
  (sRet (mFld "written" ["Speller"] (mVar 2))))))
def f_text_image : List D → S → R D := mkFz (mkFn 2 4 m_text_image)
theorem ar_text_image : ∀ ds s, ds.length ≠ 2 → f_text_image ds s = .bad := mkFz_arity mkFn_arity
/-- _law_part: 0 orders, 1 world, 2 sign, 3 at, 4 turn, 5 order, 6 word -/
def m_law_part : MS := (ssCons (sSet 3 (mC (.int 0)))
  (ssCons (sFor (iRange1 (mN dLen (aCons (mVar 0) aNil))) (gSlot 4)
  (ssCons (sIf (tBool (m2 dGe (mVar 3) (mN dLen (aCons (mVar 0) aNil))))
  (sRet (mC (.bl true)))
  ssNil)
  (ssCons (sSet 5 (m2 dIx (mVar 0) (mVar 3)))
  (ssCons (sSet 6 (m2 dIx (mVar 5) (mC (.int 0))))
  (ssCons (sSet 3 (m2 dAdd (mVar 3) (mC (.int 1))))
  (ssCons (sIf (tBool (m2 dIn (mVar 6) (mN dLst (aCons (mC (.str "next")) (aCons (mC (.str "lose")) aNil)))))
  (sRet (m2 dEq (mVar 6) (mC (.str "next"))))
  ssNil)
  (sIf (tBool (m2 dEq (mVar 6) (mC (.str "echo"))))
  (sAsg (m2 dAdd (m2 dIxK (mVar 1) (mC (.str "written"))) (mVar 2)) (gSubK (mVar 1) (mC (.str "written"))))
  (sIf (tBool (m2 dEq (mVar 6) (mC (.str "keep"))))
  (sAsg (mVar 2) (gSubK (mVar 1) (mC (.str "kept"))))
  (sIf (tBool (m2 dEq (mVar 6) (mC (.str "pay"))))
  (ssCons (sAsg (m2 dAdd (m2 dIxK (mVar 1) (mC (.str "written"))) (m2 dIxK (mVar 1) (mC (.str "kept")))) (gSubK (mVar 1) (mC (.str "written"))))
  (sAsg (mC (.str "")) (gSubK (mVar 1) (mC (.str "kept")))))
  (sIf (tBool (m2 dEq (mVar 6) (mC (.str "write"))))
  (sAsg (m2 dAdd (m2 dIxK (mVar 1) (mC (.str "written"))) (m2 dIx (mVar 5) (mC (.int 1)))) (gSubK (mVar 1) (mC (.str "written"))))
  (sIf (tBool (m2 dIn (mVar 6) (mN dLst (aCons (mC (.str "raise")) (aCons (mC (.str "lower")) aNil)))))
  (sAsg (m2 dEq (mVar 6) (mC (.str "raise"))) (gSubD (m2 dIxK (mVar 1) (mC (.str "flags"))) (m2 dIx (mVar 5) (mC (.int 1)))))
  (sIf (tBool (m2 dEq (mVar 6) (mC (.str "skip"))))
  (sSet 3 (m2 dAdd (mVar 3) (m2 dIx (mVar 5) (mC (.int 1)))))
  (sIf (tBool (m2 dEq (mVar 6) (mC (.str "sign"))))
  (sSet 3 (m2 dAdd (mVar 3) (m2 dMul (m2 dIx (mVar 5) (mC (.int 2))) (mN dInt (aCons (m2 dNe (mVar 2) (m2 dIx (mVar 5) (mC (.int 1)))) aNil)))))
  (sIf (tBool (m2 dEq (mVar 6) (mC (.str "kept"))))
  (sSet 3 (m2 dAdd (mVar 3) (m2 dMul (m2 dIx (mVar 5) (mC (.int 2))) (mN dInt (aCons (m2 dNe (m2 dIxK (mVar 1) (mC (.str "kept"))) (m2 dIx (mVar 5) (mC (.int 1)))) aNil)))))
  (sSet 3 (m2 dAdd (mVar 3) (m2 dMul (m2 dIx (mVar 5) (mC (.int 2))) (mN dInt (aCons (m2 dNe (m2 dIx (m2 dIxK (mVar 1) (mC (.str "flags"))) (m2 dIx (mVar 5) (mC (.int 1)))) (m2 dEq (mVar 6) (mC (.str "up")))) aNil)))))))))))))))))))
  (sRet (mC (.bl true)))))
def f_law_part : List D → S → R D := mkFn 3 7 m_law_part
theorem ar_law_part : ∀ ds s, ds.length ≠ 3 → f_law_part ds s = .bad := mkFn_arity
/-- _law_spelt: 0 recipe, 1 text, 2 letters, 3 body, 4 finish, 5 world, 6 sign -/
def m_law_spelt : MS := (ssCons (sAsg (mVar 0) (gTupD 3 (gsCons (gSlot 2) (gsCons (gSlot 3) (gsCons (gSlot 4) gsNil)))))
  (ssCons (sSet 5 (mDisp [.inr "flags", .inr "kept", .inr "written"] (aCons (mN dNew (aCons (mC (.bl false)) (aCons (mC (.bl false)) (aCons (mC (.bl false)) (aCons (mC (.bl false)) aNil))))) (aCons (mC (.str "")) (aCons (mC (.str "")) aNil)))))
  (ssCons (sFor (iAny (mVar 1)) (gSlot 6)
  (sIf (tOr2 (tBool (m2 dNotIn (mVar 6) (mVar 2))) (tNot1 (tTru dTru (mN f_law_part (aCons (mVar 3) (aCons (mVar 5) (aCons (mVar 6) aNil)))))))
  (sRet (mC .non))
  ssNil))
  (sRet (mIf (tTru dTru (mN f_law_part (aCons (mVar 4) (aCons (mVar 5) (aCons (mC (.str "")) aNil))))) (m2 dIxK (mVar 5) (mC (.str "written"))) (mC .non))))))
def f_law_spelt : List D → S → R D := mkFz (mkFn 2 7 m_law_spelt)
theorem ar_law_spelt : ∀ ds s, ds.length ≠ 2 → f_law_spelt ds s = .bad := mkFz_arity mkFn_arity
/-- law: 0 script, 1 deck, 2 recipe, 3 letters, 4 body, 5 finish, 6 passed, 7 made, 8 texts, 9 turn, 10 text -/
def m_law : MS := (ssCons (sSet 1 (mN f_law_deck (aCons (mVar 0) (aCons (mC (.int 50)) (aCons (mC (.int 14)) aNil)))))
  (ssCons (sSet 2 (mN f_law_text_recipe (aCons (mVar 1) aNil)))
  (ssCons (sAsg (mVar 2) (gTupD 3 (gsCons (gSlot 3) (gsCons (gSlot 4) (gsCons (gSlot 5) gsNil)))))
  (ssCons (sSet 6 (mN dNew (aCons (mN (dList true) (aCons (mVar 4) aNil)) (aCons (mN (dList true) (aCons (mVar 5) aNil)) aNil))))
  (ssCons (sSet 7 (mFz (mMake "TextRecipe" f_TextRecipe_init (aCons (mVar 3) (aCons (m2 dIx (mVar 6) (mC (.int 0))) (aCons (m2 dIx (mVar 6) (mC (.int 1))) aNil))))))
  (ssCons (sSet 8 (mN f_law_texts (aCons (mVar 1) (aCons (mVar 3) aNil))))
  (ssCons (sFor (iRange1 (mC (.int 2))) (gSlot 9)
  (sCut (ssCons (sIf (tBool (m2 dNe (mN f_law_plain (aCons (mN dLst (aCons (mFld "letters" ["TextRecipe"] (mVar 7)) (aCons (mFld "body" ["TextRecipe"] (mVar 7)) (aCons (mFld "finish" ["TextRecipe"] (mVar 7)) aNil)))) aNil)) (mN f_law_plain (aCons (mN dLst (aCons (mVar 3) (aCons (mVar 4) (aCons (mVar 5) aNil)))) aNil))))
  (sRet (mC (.bl false)))
  ssNil)
  (ssCons (sFor (iAny (mVar 8)) (gSlot 10)
  (sIf (tBool (m2 dNe (mN f_law_plain (aCons (mN f_text_image (aCons (mVar 7) (aCons (mVar 10) aNil))) aNil)) (mN f_law_plain (aCons (mN f_law_spelt (aCons (mVar 2) (aCons (mVar 10) aNil))) aNil))))
  (sRet (mC (.bl false)))
  ssNil))
  (ssCons (sExpr (mMt "list" dAppend (m2 dIx (mVar 6) (mC (.int 0))) (aCons (mN dTup (aCons (mC (.str "lose")) aNil)) aNil)))
  (sExpr (mMt "list" dAppend (m2 dIx (mVar 6) (mC (.int 1))) (aCons (mN dTup (aCons (mC (.str "lose")) aNil)) aNil))))))))
  (sRet (mC (.bl true))))))))))
def f_law : List D → S → R D := mkFn 1 11 m_law
theorem ar_law : ∀ ds s, ds.length ≠ 1 → f_law ds s = .bad := mkFn_arity
end
end K11
namespace K11
open PySem PySem.Spec PyProof.Rows L2 Pm
noncomputable section
structure Gs where
  a_law_deck : Addr
  fd_law_deck : FuncData
  a_law_take : Addr
  fd_law_take : FuncData
  a_law_text_order : Addr
  fd_law_text_order : FuncData
  a_law_text_recipe : Addr
  fd_law_text_recipe : FuncData
  a_check_letters : Addr
  fd_check_letters : FuncData
  a_shape_of : Addr
  fd_shape_of : FuncData
  a_fits : Addr
  fd_fits : FuncData
  a_allowed : Addr
  fd_allowed : FuncData
  a_check_orders : Addr
  fd_check_orders : FuncData
  a_TextRecipe_init : Addr
  fd_TextRecipe_init : FuncData
  a_law_texts : Addr
  fd_law_texts : FuncData
  a_law_plain : Addr
  fd_law_plain : FuncData
  a_Speller_init : Addr
  fd_Speller_init : FuncData
  a_Speller_do : Addr
  fd_Speller_do : FuncData
  a_Speller_skipped : Addr
  fd_Speller_skipped : FuncData
  a_Speller_execute : Addr
  fd_Speller_execute : FuncData
  a_text_image : Addr
  fd_text_image : FuncData
  a_law_part : Addr
  fd_law_part : FuncData
  a_law_spelt : Addr
  fd_law_spelt : FuncData
  a_law : Addr
  fd_law : FuncData
  C_Speller : Addr
  C_TextRecipe : Addr
structure GOk (w : World) (K : PySem.W.Frag) (mg : Str → Option Value) (cl : Str → Option Addr) (g : Gs) : Prop where
  F_law_deck : Fun K "_law_deck" "_law_deck" s_law_deck g.a_law_deck g.fd_law_deck
  b_law_deck : Binds K g.fd_law_deck ["script", "cells", "each"] []
  k_law_deck : PySem.W.keepIn K (.ref g.a_law_deck) = true
  g_law_deck : mg "_law_deck" = some (.ref g.a_law_deck)
  F_law_take : Fun K "_law_take" "_law_take" s_law_take g.a_law_take g.fd_law_take
  b_law_take : Binds K g.fd_law_take ["deck", "many"] []
  k_law_take : PySem.W.keepIn K (.ref g.a_law_take) = true
  g_law_take : mg "_law_take" = some (.ref g.a_law_take)
  F_law_text_order : Fun K "_law_text_order" "_law_text_order" s_law_text_order g.a_law_text_order g.fd_law_text_order
  b_law_text_order : Binds K g.fd_law_text_order ["deck", "letters", "behind", "is_body"] []
  k_law_text_order : PySem.W.keepIn K (.ref g.a_law_text_order) = true
  g_law_text_order : mg "_law_text_order" = some (.ref g.a_law_text_order)
  F_law_text_recipe : Fun K "_law_text_recipe" "_law_text_recipe" s_law_text_recipe g.a_law_text_recipe g.fd_law_text_recipe
  b_law_text_recipe : Binds K g.fd_law_text_recipe ["deck"] []
  k_law_text_recipe : PySem.W.keepIn K (.ref g.a_law_text_recipe) = true
  g_law_text_recipe : mg "_law_text_recipe" = some (.ref g.a_law_text_recipe)
  F_check_letters : Fun K "check_letters" "check_letters" s_check_letters g.a_check_letters g.fd_check_letters
  b_check_letters : Binds K g.fd_check_letters ["letters"] []
  k_check_letters : PySem.W.keepIn K (.ref g.a_check_letters) = true
  g_check_letters : mg "check_letters" = some (.ref g.a_check_letters)
  F_shape_of : Fun K "shape_of" "shape_of" s_shape_of g.a_shape_of g.fd_shape_of
  b_shape_of : Binds K g.fd_shape_of ["part", "word"] []
  k_shape_of : PySem.W.keepIn K (.ref g.a_shape_of) = true
  g_shape_of : mg "shape_of" = some (.ref g.a_shape_of)
  F_fits : Fun K "fits" "fits" s_fits g.a_fits g.fd_fits
  b_fits : Binds K g.fd_fits ["letter", "operand", "behind", "letters"] []
  k_fits : PySem.W.keepIn K (.ref g.a_fits) = true
  g_fits : mg "fits" = some (.ref g.a_fits)
  F_allowed : Fun K "allowed" "allowed" s_allowed g.a_allowed g.fd_allowed
  b_allowed : Binds K g.fd_allowed ["order", "part", "behind", "letters"] []
  k_allowed : PySem.W.keepIn K (.ref g.a_allowed) = true
  g_allowed : mg "allowed" = some (.ref g.a_allowed)
  F_check_orders : Fun K "check_orders" "check_orders" s_check_orders g.a_check_orders g.fd_check_orders
  b_check_orders : Binds K g.fd_check_orders ["part", "orders", "letters"] []
  k_check_orders : PySem.W.keepIn K (.ref g.a_check_orders) = true
  g_check_orders : mg "check_orders" = some (.ref g.a_check_orders)
  F_TextRecipe_init : Fun K "__init__" "TextRecipe.__init__" s_TextRecipe_init g.a_TextRecipe_init g.fd_TextRecipe_init
  b_TextRecipe_init : Binds K g.fd_TextRecipe_init ["self", "letters", "body", "finish"] []
  k_TextRecipe_init : PySem.W.keepIn K (.ref g.a_TextRecipe_init) = true
  F_law_texts : Fun K "_law_texts" "_law_texts" s_law_texts g.a_law_texts g.fd_law_texts
  b_law_texts : Binds K g.fd_law_texts ["deck", "letters"] []
  k_law_texts : PySem.W.keepIn K (.ref g.a_law_texts) = true
  g_law_texts : mg "_law_texts" = some (.ref g.a_law_texts)
  F_law_plain : Fun K "_law_plain" "_law_plain" s_law_plain g.a_law_plain g.fd_law_plain
  b_law_plain : Binds K g.fd_law_plain ["value"] []
  k_law_plain : PySem.W.keepIn K (.ref g.a_law_plain) = true
  g_law_plain : mg "_law_plain" = some (.ref g.a_law_plain)
  F_Speller_init : Fun K "__init__" "Speller.__init__" s_Speller_init g.a_Speller_init g.fd_Speller_init
  b_Speller_init : Binds K g.fd_Speller_init ["self", "flags", "kept"] []
  k_Speller_init : PySem.W.keepIn K (.ref g.a_Speller_init) = true
  F_Speller_do : Fun K "do" "Speller.do" s_Speller_do g.a_Speller_do g.fd_Speller_do
  b_Speller_do : Binds K g.fd_Speller_do ["self", "order", "sign"] []
  k_Speller_do : PySem.W.keepIn K (.ref g.a_Speller_do) = true
  me_Speller_do : Meth K g.C_Speller "do" g.a_Speller_do
  F_Speller_skipped : Fun K "skipped" "Speller.skipped" s_Speller_skipped g.a_Speller_skipped g.fd_Speller_skipped
  b_Speller_skipped : Binds K g.fd_Speller_skipped ["self", "order", "sign"] []
  k_Speller_skipped : PySem.W.keepIn K (.ref g.a_Speller_skipped) = true
  me_Speller_skipped : Meth K g.C_Speller "skipped" g.a_Speller_skipped
  F_Speller_execute : Fun K "execute" "Speller.execute" s_Speller_execute g.a_Speller_execute g.fd_Speller_execute
  b_Speller_execute : Binds K g.fd_Speller_execute ["self", "orders", "sign"] []
  k_Speller_execute : PySem.W.keepIn K (.ref g.a_Speller_execute) = true
  me_Speller_execute : Meth K g.C_Speller "execute" g.a_Speller_execute
  F_text_image : Fun K "text_image" "text_image" s_text_image g.a_text_image g.fd_text_image
  b_text_image : Binds K g.fd_text_image ["recipe", "text"] []
  k_text_image : PySem.W.keepIn K (.ref g.a_text_image) = true
  g_text_image : mg "text_image" = some (.ref g.a_text_image)
  F_law_part : Fun K "_law_part" "_law_part" s_law_part g.a_law_part g.fd_law_part
  b_law_part : Binds K g.fd_law_part ["orders", "world", "sign"] []
  k_law_part : PySem.W.keepIn K (.ref g.a_law_part) = true
  g_law_part : mg "_law_part" = some (.ref g.a_law_part)
  F_law_spelt : Fun K "_law_spelt" "_law_spelt" s_law_spelt g.a_law_spelt g.fd_law_spelt
  b_law_spelt : Binds K g.fd_law_spelt ["recipe", "text"] []
  k_law_spelt : PySem.W.keepIn K (.ref g.a_law_spelt) = true
  g_law_spelt : mg "_law_spelt" = some (.ref g.a_law_spelt)
  F_law : Fun K "law" "law" s_law g.a_law g.fd_law
  b_law : Binds K g.fd_law ["script"] []
  k_law : PySem.W.keepIn K (.ref g.a_law) = true
  g_law : mg "law" = some (.ref g.a_law)
  gc_Speller : mg "Speller" = some (.ref g.C_Speller)
  cl_Speller : cl "Speller" = some g.C_Speller
  cls_Speller : Cls K g.C_Speller
  mk_Speller : Mk K g.C_Speller g.a_Speller_init
  gc_TextRecipe : mg "TextRecipe" = some (.ref g.C_TextRecipe)
  cl_TextRecipe : cl "TextRecipe" = some g.C_TextRecipe
  cls_TextRecipe : Cls K g.C_TextRecipe
  mk_TextRecipe : Mk K g.C_TextRecipe g.a_TextRecipe_init
  na_Speller_flags : NoAttr K g.C_Speller "flags"
  na_Speller_kept : NoAttr K g.C_Speller "kept"
  na_Speller_written : NoAttr K g.C_Speller "written"
  na_TextRecipe_body : NoAttr K g.C_TextRecipe "body"
  na_TextRecipe_finish : NoAttr K g.C_TextRecipe "finish"
  na_TextRecipe_letters : NoAttr K g.C_TextRecipe "letters"
  n_abs : mg "abs" = none
  n_bool : mg "bool" = none
  n_int : mg "int" = none
  n_isinstance : mg "isinstance" = none
  n_len : mg "len" = none
  n_list : mg "list" = none
  n_min : mg "min" = none
  n_range : mg "range" = none
  n_str : mg "str" = none
  n_tuple : mg "tuple" = none
  n_zip : mg "zip" = none
  v_BODY_ORDERS : ∃ v u, mg "BODY_ORDERS" = some u ∧ RelV v u ∧ ∀ (cl : Cl) ι H, RelD K w cl ι H d_BODY_ORDERS v
  v_BOUNDS : ∃ v u, mg "BOUNDS" = some u ∧ RelV v u ∧ ∀ (cl : Cl) ι H, RelD K w cl ι H d_BOUNDS v
  v_FINISH_ORDERS : ∃ v u, mg "FINISH_ORDERS" = some u ∧ RelV v u ∧ ∀ (cl : Cl) ι H, RelD K w cl ι H d_FINISH_ORDERS v
  v_FLAGS : ∃ v u, mg "FLAGS" = some u ∧ RelV v u ∧ ∀ (cl : Cl) ι H, RelD K w cl ι H d_FLAGS v
  v_LETTERS : ∃ v u, mg "LETTERS" = some u ∧ RelV v u ∧ ∀ (cl : Cl) ι H, RelD K w cl ι H d_LETTERS v
  v_MOST_DIVISOR : ∃ v u, mg "MOST_DIVISOR" = some u ∧ RelV v u ∧ ∀ (cl : Cl) ι H, RelD K w cl ι H d_MOST_DIVISOR v
  v_MOST_ORDERS : ∃ v u, mg "MOST_ORDERS" = some u ∧ RelV v u ∧ ∀ (cl : Cl) ι H, RelD K w cl ι H d_MOST_ORDERS v
  v_NUMBER_ORDERS : ∃ v u, mg "NUMBER_ORDERS" = some u ∧ RelV v u ∧ ∀ (cl : Cl) ι H, RelD K w cl ι H d_NUMBER_ORDERS v
section
variable {P : Program} {w : World} {K : PySem.W.Frag} {mg : Str → Option Value} {base : Heap} {cl : Str → Option Addr} {g : Gs}
theorem GOk.e_BODY_ORDERS {X : Cx} {W : Wish} {c1 : Cl} {pos : Pos} (T : GOk X.w X.K mg cl g) (hg : Gl X "BODY_ORDERS") (hm : X.mg = mg) : SE X c1 W (.Name "BODY_ORDERS" pos) c_BODY_ORDERS := by
  obtain ⟨v, u, h1, h2, h3⟩ := T.v_BODY_ORDERS
  exact se_glob hg (by rw [hm]; exact h1) h2 (h3 c1)
theorem GOk.e_BOUNDS {X : Cx} {W : Wish} {c1 : Cl} {pos : Pos} (T : GOk X.w X.K mg cl g) (hg : Gl X "BOUNDS") (hm : X.mg = mg) : SE X c1 W (.Name "BOUNDS" pos) c_BOUNDS := by
  obtain ⟨v, u, h1, h2, h3⟩ := T.v_BOUNDS
  exact se_glob hg (by rw [hm]; exact h1) h2 (h3 c1)
theorem GOk.e_FINISH_ORDERS {X : Cx} {W : Wish} {c1 : Cl} {pos : Pos} (T : GOk X.w X.K mg cl g) (hg : Gl X "FINISH_ORDERS") (hm : X.mg = mg) : SE X c1 W (.Name "FINISH_ORDERS" pos) c_FINISH_ORDERS := by
  obtain ⟨v, u, h1, h2, h3⟩ := T.v_FINISH_ORDERS
  exact se_glob hg (by rw [hm]; exact h1) h2 (h3 c1)
theorem GOk.e_FLAGS {X : Cx} {W : Wish} {c1 : Cl} {pos : Pos} (T : GOk X.w X.K mg cl g) (hg : Gl X "FLAGS") (hm : X.mg = mg) : SE X c1 W (.Name "FLAGS" pos) c_FLAGS := by
  obtain ⟨v, u, h1, h2, h3⟩ := T.v_FLAGS
  exact se_glob hg (by rw [hm]; exact h1) h2 (h3 c1)
theorem GOk.e_LETTERS {X : Cx} {W : Wish} {c1 : Cl} {pos : Pos} (T : GOk X.w X.K mg cl g) (hg : Gl X "LETTERS") (hm : X.mg = mg) : SE X c1 W (.Name "LETTERS" pos) c_LETTERS := by
  obtain ⟨v, u, h1, h2, h3⟩ := T.v_LETTERS
  exact se_glob hg (by rw [hm]; exact h1) h2 (h3 c1)
theorem GOk.e_MOST_DIVISOR {X : Cx} {W : Wish} {c1 : Cl} {pos : Pos} (T : GOk X.w X.K mg cl g) (hg : Gl X "MOST_DIVISOR") (hm : X.mg = mg) : SE X c1 W (.Name "MOST_DIVISOR" pos) c_MOST_DIVISOR := by
  obtain ⟨v, u, h1, h2, h3⟩ := T.v_MOST_DIVISOR
  exact se_glob hg (by rw [hm]; exact h1) h2 (h3 c1)
theorem GOk.e_MOST_ORDERS {X : Cx} {W : Wish} {c1 : Cl} {pos : Pos} (T : GOk X.w X.K mg cl g) (hg : Gl X "MOST_ORDERS") (hm : X.mg = mg) : SE X c1 W (.Name "MOST_ORDERS" pos) c_MOST_ORDERS := by
  obtain ⟨v, u, h1, h2, h3⟩ := T.v_MOST_ORDERS
  exact se_glob hg (by rw [hm]; exact h1) h2 (h3 c1)
theorem GOk.e_NUMBER_ORDERS {X : Cx} {W : Wish} {c1 : Cl} {pos : Pos} (T : GOk X.w X.K mg cl g) (hg : Gl X "NUMBER_ORDERS") (hm : X.mg = mg) : SE X c1 W (.Name "NUMBER_ORDERS" pos) c_NUMBER_ORDERS := by
  obtain ⟨v, u, h1, h2, h3⟩ := T.v_NUMBER_ORDERS
  exact se_glob hg (by rw [hm]; exact h1) h2 (h3 c1)
theorem sc_law_deck : FnScope ["script", "cells", "each", "deck", "seed", "k", "cell", "rest", "at"] ["script", "cells", "each"] (defScope s_law_deck) := ⟨rfl, rfl, rfl, by decide +kernel, rfl, by decide +kernel, by decide +kernel⟩
theorem ok_law_deck (T : GOk w K mg cl g) : FnOk P w K mg base (L2.CX P w) 1 g.a_law_deck g.fd_law_deck ["script", "cells", "each"] (spD K w ⟨cl, none⟩ 3 f_law_deck) := by
  refine fn_ok T.F_law_deck sc_law_deck fun cdv A outer s H E hr => ?_
  exact (ss_cons (ss_set 3 sc_law_deck.nd (se_new sa_nil))
    (ss_cons (ss_set 4 sc_law_deck.nd (se_op d_add se_int (se_callB d_len rfl T.n_len boot_len (sa_cons (se_var 0) sa_nil))))
    (ss_cons (ss_for (passes_of rfl) rfl (si_range1 rfl T.n_range (se_var 1)) (sg_name 5 sc_law_deck.nd) (ss_cons (ss_set 6 sc_law_deck.nd se_int)
    (ss_cons (ss_if (sb_cmp d_lt (se_var 5) (se_callB d_len rfl T.n_len boot_len (sa_cons (se_var 0) sa_nil))) (ss_one (ss_set 6 sc_law_deck.nd (se_ix (se_var 0) (se_var 5)))) ss_nil)
    (ss_cons (ss_set 7 sc_law_deck.nd (se_callB d_abs rfl T.n_abs boot_abs (sa_cons (se_var 6) sa_nil)))
    (ss_one (ss_if (sb_cmp d_ge (se_var 7) (se_op d_pow se_int se_int)) (ss_one (ss_for (passes_of rfl) rfl (si_range1 rfl T.n_range (se_var 2)) (sg_name 8 sc_law_deck.nd) (ss_cons (ss_expr (se_mt PySem.F.plainAttrs_list PySem.F.slot_list_append PySem.F.type_list_append d_append (se_var 3) (sa_cons (se_op d_mod (se_callTy d_int rfl T.n_int boot_int (sa_cons (se_var 7) sa_nil)) se_int) sa_nil)))
    (ss_one (ss_set 7 sc_law_deck.nd (se_op d_fdiv (se_var 7) se_int)))))) (ss_cons (ss_set 4 sc_law_deck.nd (se_op d_mod (se_callTy d_int rfl T.n_int boot_int (sa_cons (se_op d_add (se_op d_add (se_op d_add (se_op d_mul (se_var 4) se_int) (se_op d_mul se_int (se_var 7))) (se_callTy d_int rfl T.n_int boot_int (sa_cons (se_cmp d_lt (se_var 6) se_int) sa_nil))) (se_var 5)) sa_nil)) se_int))
    (ss_one (ss_for (passes_of rfl) rfl (si_range1 rfl T.n_range (se_var 2)) (sg_name 8 sc_law_deck.nd) (ss_cons (ss_set 4 sc_law_deck.nd (se_op d_mod (se_callTy d_int rfl T.n_int boot_int (sa_cons (se_op d_add (se_op d_add (se_op d_mul (se_var 4) se_int) (se_var 8)) se_int) sa_nil)) se_int))
    (ss_one (ss_expr (se_mt PySem.F.plainAttrs_list PySem.F.slot_list_append PySem.F.type_list_append d_append (se_var 3) (sa_cons (se_op d_mod (se_callTy d_int rfl T.n_int boot_int (sa_cons (se_op d_fdiv (se_var 4) se_int) sa_nil)) se_int) sa_nil))))))))))))))
    (ss_cons (ss_expr (se_mt0 PySem.F.plainAttrs_list PySem.F.slot_list_reverse PySem.F.type_list_reverse d_reverse (se_var 3)))
    (ss_one (ss_ret (se_var 3)))))))
theorem sc_law_take : FnScope ["deck", "many"] ["deck", "many"] (defScope s_law_take) := ⟨rfl, rfl, rfl, by decide +kernel, rfl, by decide +kernel, by decide +kernel⟩
theorem ok_law_take (T : GOk w K mg cl g) : FnOk P w K mg base (L2.CX P w) 1 g.a_law_take g.fd_law_take ["deck", "many"] (spD K w ⟨cl, none⟩ 2 f_law_take) := by
  refine fn_ok T.F_law_take sc_law_take fun cdv A outer s H E hr => ?_
  exact (ss_cons (ss_if (sb_cmp (d_eq (room_u hr)) (se_callB d_len rfl T.n_len boot_len (sa_cons (se_var 0) sa_nil)) se_int) (ss_one (ss_ret se_int)) ss_nil)
    (ss_one (ss_ret (se_op d_mod (se_callTy d_int rfl T.n_int boot_int (sa_cons (se_mt0 PySem.F.plainAttrs_list PySem.F.slot_list_pop PySem.F.type_list_pop d_pop (se_var 0)) sa_nil)) (se_var 1)))))
theorem sc_law_text_order : FnScope ["deck", "letters", "behind", "is_body", "words", "word", "skips", "flag"] ["deck", "letters", "behind", "is_body"] (defScope s_law_text_order) := ⟨rfl, rfl, rfl, by decide +kernel, rfl, by decide +kernel, by decide +kernel⟩
theorem ok_law_text_order (T : GOk w K mg cl g) : FnOk P w K mg base (L2.CX P w) 2 g.a_law_text_order g.fd_law_text_order ["deck", "letters", "behind", "is_body"] (spD K w ⟨cl, none⟩ 4 f_law_text_order) := by
  refine fn_ok T.F_law_text_order sc_law_text_order fun cdv A outer s H E hr => ?_
  exact (ss_cons (ss_set 4 sc_law_text_order.nd se_str)
    (ss_cons (ss_set 5 sc_law_text_order.nd (se_ix (se_mt PySem.F.plainAttrs_str PySem.F.slot_str_split PySem.F.type_str_split d_split (se_op d_add (se_var 4) se_str) (sa_cons se_str sa_nil)) (se_call (takes_of rfl rfl rfl rfl) (ok_law_take T) ar_law_take (hr.mono (by decide)) rfl T.g_law_take T.k_law_take T.b_law_take (sa_cons (se_var 0) (sa_cons se_int sa_nil)))))
    (ss_cons (ss_set 6 sc_law_text_order.nd (se_callB (d_min2 rfl) rfl T.n_min boot_min (sa_cons (se_var 2) (sa_cons (se_ix (se_lst (sa_cons se_int (sa_cons se_int (sa_cons se_int (sa_cons se_int (sa_cons se_int (sa_cons (se_call (takes_of rfl rfl rfl rfl) (ok_law_take T) ar_law_take (hr.mono (by decide)) rfl T.g_law_take T.k_law_take T.b_law_take (sa_cons (se_var 0) (sa_cons se_int sa_nil))) sa_nil))))))) (se_call (takes_of rfl rfl rfl rfl) (ok_law_take T) ar_law_take (hr.mono (by decide)) rfl T.g_law_take T.k_law_take T.b_law_take (sa_cons (se_var 0) (sa_cons se_int sa_nil)))) sa_nil))))
    (ss_cons (ss_set 7 sc_law_text_order.nd (se_ix (se_lst (sa_cons se_int (sa_cons se_int (sa_cons se_int (sa_cons se_int (sa_cons se_int (sa_cons se_int sa_nil))))))) (se_call (takes_of rfl rfl rfl rfl) (ok_law_take T) ar_law_take (hr.mono (by decide)) rfl T.g_law_take T.k_law_take T.b_law_take (sa_cons (se_var 0) (sa_cons se_int sa_nil)))))
    (ss_cons (ss_if (sb_bool (sw_or (sb_bool (sw_and (sb_cmp (d_in (room_u1 hr)) (se_var 5) (se_lst (sa_cons se_str (sa_cons se_str (sa_cons se_str sa_nil))))) (sw_and1 (sb_not (sb_tru (se_var 3)))))) (sw_or1 (sb_bool (sw_and (sb_cmp (d_in (room_u1 hr)) (se_var 5) (se_lst (sa_cons se_str (sa_cons se_str sa_nil)))) (sw_and1 (sb_cmp (d_eq (room_u hr)) (se_callB d_len rfl T.n_len boot_len (sa_cons (se_var 1) sa_nil)) se_int))))))) (ss_one (ss_set 5 sc_law_text_order.nd se_str)) ss_nil)
    (ss_cons (ss_if (sb_cmp (d_in (room_u1 hr)) (se_var 5) (se_lst (sa_cons se_str (sa_cons se_str sa_nil)))) (ss_one (ss_ret (se_tup (sa_cons (se_var 5) (sa_cons (se_ix (se_var 1) (se_call (takes_of rfl rfl rfl rfl) (ok_law_take T) ar_law_take (hr.mono (by decide)) rfl T.g_law_take T.k_law_take T.b_law_take (sa_cons (se_var 0) (sa_cons (se_callB d_len rfl T.n_len boot_len (sa_cons (se_var 1) sa_nil)) sa_nil)))) (sa_cons (se_var 6) sa_nil)))))) ss_nil)
    (ss_cons (ss_if (sb_cmp (d_eq (room_u hr)) (se_var 5) se_str) (ss_one (ss_ret (se_tup (sa_cons (se_var 5) (sa_cons (se_ix (se_lst (sa_cons se_str (sa_cons se_str (sa_cons se_str (sa_cons se_str (sa_cons se_str sa_nil)))))) (se_call (takes_of rfl rfl rfl rfl) (ok_law_take T) ar_law_take (hr.mono (by decide)) rfl T.g_law_take T.k_law_take T.b_law_take (sa_cons (se_var 0) (sa_cons se_int sa_nil)))) sa_nil))))) ss_nil)
    (ss_cons (ss_if (sb_cmp (d_in (room_u1 hr)) (se_var 5) (se_lst (sa_cons se_str (sa_cons se_str sa_nil)))) (ss_one (ss_ret (se_tup (sa_cons (se_var 5) (sa_cons (se_var 7) sa_nil))))) ss_nil)
    (ss_cons (ss_if (sb_cmp (d_in (room_u1 hr)) (se_var 5) (se_lst (sa_cons se_str (sa_cons se_str sa_nil)))) (ss_one (ss_ret (se_tup (sa_cons (se_var 5) (sa_cons (se_var 7) (sa_cons (se_var 6) sa_nil)))))) ss_nil)
    (ss_cons (ss_if (sb_cmp (d_eq (room_u hr)) (se_var 5) se_str) (ss_one (ss_ret (se_tup (sa_cons (se_var 5) (sa_cons (se_var 6) sa_nil))))) ss_nil)
    (ss_cons (ss_if (sb_bool (sw_and (sb_cmp (d_eq (room_u hr)) (se_var 5) se_str) (sw_and1 (sb_cmp d_gt (se_call (takes_of rfl rfl rfl rfl) (ok_law_take T) ar_law_take (hr.mono (by decide)) rfl T.g_law_take T.k_law_take T.b_law_take (sa_cons (se_var 0) (sa_cons se_int sa_nil))) se_int)))) (ss_one (ss_ret (se_tup (sa_cons se_str (sa_cons se_str sa_nil))))) ss_nil)
    (ss_one (ss_ret (se_tup (sa_cons (se_var 5) sa_nil)))))))))))))))
theorem sc_law_text_recipe : FnScope ["deck", "letters", "sizes", "size", "body", "at"] ["deck"] (defScope s_law_text_recipe) := ⟨rfl, rfl, rfl, by decide +kernel, rfl, by decide +kernel, by decide +kernel⟩
theorem ok_law_text_recipe (T : GOk w K mg cl g) : FnOk P w K mg base (L2.CX P w) 3 g.a_law_text_recipe g.fd_law_text_recipe ["deck"] (spD K w ⟨cl, none⟩ 1 f_law_text_recipe) := by
  refine fn_ok T.F_law_text_recipe sc_law_text_recipe fun cdv A outer s H E hr => ?_
  exact (ss_cons (ss_set 1 sc_law_text_recipe.nd (se_ix (se_lst (sa_cons se_str (sa_cons se_str (sa_cons se_str (sa_cons se_str (sa_cons se_str (sa_cons se_str sa_nil))))))) (se_call (takes_of rfl rfl rfl rfl) (ok_law_take T) ar_law_take (hr.mono (by decide)) rfl T.g_law_take T.k_law_take T.b_law_take (sa_cons (se_var 0) (sa_cons se_int sa_nil)))))
    (ss_cons (ss_set 2 sc_law_text_recipe.nd (se_lst (sa_cons (se_call (takes_of rfl rfl rfl rfl) (ok_law_take T) ar_law_take (hr.mono (by decide)) rfl T.g_law_take T.k_law_take T.b_law_take (sa_cons (se_var 0) (sa_cons se_int sa_nil))) (sa_cons (se_op d_add se_int (se_call (takes_of rfl rfl rfl rfl) (ok_law_take T) ar_law_take (hr.mono (by decide)) rfl T.g_law_take T.k_law_take T.b_law_take (sa_cons (se_var 0) (sa_cons se_int sa_nil)))) (sa_cons (se_call (takes_of rfl rfl rfl rfl) (ok_law_take T) ar_law_take (hr.mono (by decide)) rfl T.g_law_take T.k_law_take T.b_law_take (sa_cons (se_var 0) (sa_cons se_int sa_nil))) sa_nil)))))
    (ss_cons (ss_set 3 sc_law_text_recipe.nd (se_ix (se_var 2) (se_call (takes_of rfl rfl rfl rfl) (ok_law_take T) ar_law_take (hr.mono (by decide)) rfl T.g_law_take T.k_law_take T.b_law_take (sa_cons (se_var 0) (sa_cons se_int sa_nil)))))
    (ss_cons (ss_setLc 4 rfl sc_law_text_recipe.nd (si_range1 rfl T.n_range (se_var 3)) (own := [("at", 5)]) (blkOk_by (by first | rfl | decide +kernel)) (.name 5 _ (by decide)) (fun _ _ _ _ _ => pg_name (i := 5) sc_law_text_recipe.nd rfl (Or.inl rfl)) (fun _ _ _ _ _ => sp_nil) (fun _ _ _ _ _ => (se_call takes0 (ok_law_text_order T) ar_law_text_order (hr.mono (by decide)) rfl T.g_law_text_order T.k_law_text_order T.b_law_text_order (sa_cons (se_var 0) (sa_cons (se_var 1) (sa_cons (se_op d_sub (se_op d_sub (se_var 3) (se_var 5)) se_int) (sa_cons se_bl sa_nil)))))) rfl)
    (ss_cons (ss_set 3 sc_law_text_recipe.nd (se_call (takes_of rfl rfl rfl rfl) (ok_law_take T) ar_law_take (hr.mono (by decide)) rfl T.g_law_take T.k_law_take T.b_law_take (sa_cons (se_var 0) (sa_cons se_int sa_nil))))
    (ss_one (ss_ret (se_tup (sa_cons (se_var 1) (sa_cons (se_var 4) (sa_cons (se_lc rfl sc_law_text_recipe.nd (si_range1 rfl T.n_range (se_var 3)) (own := [("at", 5)]) (blkOk_by (by first | rfl | decide +kernel)) (.name 5 _ (by decide)) (fun _ _ _ _ _ => pg_name (i := 5) sc_law_text_recipe.nd rfl (Or.inl rfl)) (fun _ _ _ _ _ => sp_nil) (fun _ _ _ _ _ => (se_call takes0 (ok_law_text_order T) ar_law_text_order (hr.mono (by decide)) rfl T.g_law_text_order T.k_law_text_order T.b_law_text_order (sa_cons (se_var 0) (sa_cons (se_var 1) (sa_cons (se_op d_sub (se_op d_sub (se_var 3) (se_var 5)) se_int) (sa_cons se_bl sa_nil))))))) sa_nil)))))))))))
theorem sc_check_letters : FnScope ["letters", "at"] ["letters"] (defScope s_check_letters) := ⟨rfl, rfl, rfl, by decide +kernel, rfl, by decide +kernel, by decide +kernel⟩
theorem ok_check_letters (T : GOk w K mg cl g) : FnOk P w K mg base (L2.CX P w) 1 g.a_check_letters g.fd_check_letters ["letters"] (spD K w ⟨cl, none⟩ 1 f_check_letters) := by
  refine fn_ok T.F_check_letters sc_check_letters fun cdv A outer s H E hr => ?_
  exact (ss_one (ss_for (passes_of rfl) rfl (si_range1 rfl T.n_range (se_callB d_len rfl T.n_len boot_len (sa_cons (se_var 0) sa_nil))) (sg_name 1 sc_check_letters.nd) (ss_one (ss_if (sb_bool (sw_or (sb_cmp (d_notin (room_u1 hr)) (se_ix (se_var 0) (se_var 1)) (T.e_LETTERS rfl rfl)) (sw_or1 (sb_cmp (d_in (room_u1 hr)) (se_ix (se_var 0) (se_var 1)) (se_slice (se_var 0) so_none (so_some (se_var 1))))))) sss_never ss_nil))))
theorem sc_shape_of : FnScope ["part", "word"] ["part", "word"] (defScope s_shape_of) := ⟨rfl, rfl, rfl, by decide +kernel, rfl, by decide +kernel, by decide +kernel⟩
theorem ok_shape_of (T : GOk w K mg cl g) : FnOk P w K mg base (L2.CX P w) 1 g.a_shape_of g.fd_shape_of ["part", "word"] (spD K w ⟨cl, none⟩ 2 f_shape_of) := by
  refine fn_ok T.F_shape_of sc_shape_of fun cdv A outer s H E hr => ?_
  exact (ss_cons (ss_if (sb_cmp (d_eq (room_u hr)) (se_var 0) se_str) (ss_one (ss_ret (se_get (T.e_NUMBER_ORDERS rfl rfl) (se_var 1)))) ss_nil)
    (ss_cons (ss_if (sb_cmp (d_eq (room_u hr)) (se_var 0) se_str) (ss_one (ss_ret (se_get (T.e_BODY_ORDERS rfl rfl) (se_var 1)))) ss_nil)
    (ss_one (ss_ret (se_get (T.e_FINISH_ORDERS rfl rfl) (se_var 1))))))
theorem sc_fits : FnScope ["letter", "operand", "behind", "letters"] ["letter", "operand", "behind", "letters"] (defScope s_fits) := ⟨rfl, rfl, rfl, by decide +kernel, rfl, by decide +kernel, by decide +kernel⟩
theorem ok_fits (T : GOk w K mg cl g) : FnOk P w K mg base (L2.CX P w) 1 g.a_fits g.fd_fits ["letter", "operand", "behind", "letters"] (spD K w ⟨cl, none⟩ 4 f_fits) := by
  refine fn_ok T.F_fits sc_fits fun cdv A outer s H E hr => ?_
  exact (ss_cons (ss_if (sb_cmp (d_in (room_u1 hr)) (se_var 0) (T.e_BOUNDS rfl rfl)) (ss_one (ss_ret (se_chain d_le d_lt se_int (se_var 1) (se_ix (T.e_BOUNDS rfl rfl) (se_var 0))))) ss_nil)
    (ss_cons (ss_if (sb_cmp (d_eq (room_u hr)) (se_var 0) se_str) (ss_one (ss_ret (se_chain d_le d_le se_int (se_var 1) (T.e_MOST_DIVISOR rfl rfl)))) ss_nil)
    (ss_cons (ss_if (sb_cmp (d_eq (room_u hr)) (se_var 0) se_str) (ss_one (ss_ret (se_chain d_le d_le se_int (se_var 1) (se_var 2)))) ss_nil)
    (ss_cons (ss_if (sb_cmp (d_eq (room_u hr)) (se_var 0) se_str) (ss_one (ss_ret (se_and (se_cmp (d_eq (room_u hr)) (se_callB d_len rfl T.n_len boot_len (sa_cons (se_var 1) sa_nil)) se_int) (se_one (se_cmp (d_in (room_u1 hr)) (se_var 1) (se_var 3)))))) ss_nil)
    (ss_one (ss_ret se_bl))))))
theorem sc_allowed : FnScope ["order", "part", "behind", "letters", "shape", "letter", "operand"] ["order", "part", "behind", "letters"] (defScope s_allowed) := ⟨rfl, rfl, rfl, by decide +kernel, rfl, by decide +kernel, by decide +kernel⟩
theorem ok_allowed (T : GOk w K mg cl g) : FnOk P w K mg base (L2.CX P w) 2 g.a_allowed g.fd_allowed ["order", "part", "behind", "letters"] (spD K w ⟨cl, none⟩ 4 f_allowed) := by
  refine fn_ok T.F_allowed sc_allowed fun cdv A outer s H E hr => ?_
  exact (ss_cons (ss_if (sb_cmp (d_eq (room_u hr)) (se_callB d_len rfl T.n_len boot_len (sa_cons (se_var 0) sa_nil)) se_int) (ss_one (ss_ret se_bl)) ss_nil)
    (ss_cons (ss_set 4 sc_allowed.nd (se_call (takes_of rfl rfl rfl rfl) (ok_shape_of T) ar_shape_of (hr.mono (by decide)) rfl T.g_shape_of T.k_shape_of T.b_shape_of (sa_cons (se_var 1) (sa_cons (se_ix (se_var 0) se_int) sa_nil))))
    (ss_cons (ss_if (sb_bool (sw_or (sb_cmp d_is (se_var 4) se_non) (sw_or1 (sb_cmp (d_ne (room_u hr)) (se_callB d_len rfl T.n_len boot_len (sa_cons (se_var 0) sa_nil)) (se_op d_add (se_callB d_len rfl T.n_len boot_len (sa_cons (se_var 4) sa_nil)) se_int))))) (ss_one (ss_ret se_bl)) ss_nil)
    (ss_cons (ss_for (passes_of rfl) rfl (si_zip rfl T.n_zip (se_var 4) (se_slice (se_var 0) (so_some se_int) so_none)) (sg_tup rfl (sgs_cons (sg_name 5 sc_allowed.nd) (sgs_cons (sg_name 6 sc_allowed.nd) sgs_nil))) (ss_one (ss_if (sb_not (sb_tru (se_call (takes_of rfl rfl rfl rfl) (ok_fits T) ar_fits (hr.mono (by decide)) rfl T.g_fits T.k_fits T.b_fits (sa_cons (se_var 5) (sa_cons (se_var 6) (sa_cons (se_var 2) (sa_cons (se_var 3) sa_nil))))))) (ss_one (ss_ret se_bl)) ss_nil)))
    (ss_one (ss_ret se_bl))))))
theorem sc_check_orders : FnScope ["part", "orders", "letters", "at"] ["part", "orders", "letters"] (defScope s_check_orders) := ⟨rfl, rfl, rfl, by decide +kernel, rfl, by decide +kernel, by decide +kernel⟩
theorem ok_check_orders (T : GOk w K mg cl g) : FnOk P w K mg base (L2.CX P w) 3 g.a_check_orders g.fd_check_orders ["part", "orders", "letters"] (spD K w ⟨cl, none⟩ 3 f_check_orders) := by
  refine fn_ok T.F_check_orders sc_check_orders fun cdv A outer s H E hr => ?_
  exact (ss_one (ss_for (passes_of rfl) rfl (si_range1 rfl T.n_range (se_callB d_len rfl T.n_len boot_len (sa_cons (se_var 1) sa_nil))) (sg_name 3 sc_check_orders.nd) (ss_one (ss_if (sb_not (sb_tru (se_call (takes_of rfl rfl rfl rfl) (ok_allowed T) ar_allowed (hr.mono (by decide)) rfl T.g_allowed T.k_allowed T.b_allowed (sa_cons (se_ix (se_var 1) (se_var 3)) (sa_cons (se_var 0) (sa_cons (se_op d_sub (se_op d_sub (se_callB d_len rfl T.n_len boot_len (sa_cons (se_var 1) sa_nil)) (se_var 3)) se_int) (sa_cons (se_var 2) sa_nil))))))) sss_never ss_nil))))
theorem sc_TextRecipe_init : FnScope ["self", "letters", "body", "finish"] ["self", "letters", "body", "finish"] (defScope s_TextRecipe_init) := ⟨rfl, rfl, rfl, by decide +kernel, rfl, by decide +kernel, by decide +kernel⟩
theorem ok_TextRecipe_init (T : GOk w K mg cl g) : FnOk P w K mg base (L2.CX P w) 4 g.a_TextRecipe_init g.fd_TextRecipe_init ["self", "letters", "body", "finish"] (spD K w ⟨cl, none⟩ 4 f_TextRecipe_init) := by
  refine fn_ok T.F_TextRecipe_init sc_TextRecipe_init fun cdv A outer s H E hr => ?_
  exact (ss_cons (ss_if (sb_cmp d_gt (se_op d_add (se_callB d_len rfl T.n_len boot_len (sa_cons (se_var 2) sa_nil)) (se_callB d_len rfl T.n_len boot_len (sa_cons (se_var 3) sa_nil))) (T.e_MOST_ORDERS rfl rfl)) sss_never ss_nil)
    (ss_cons (ss_expr (se_call (takes_of rfl rfl rfl rfl) (ok_check_letters T) ar_check_letters (hr.mono (by decide)) rfl T.g_check_letters T.k_check_letters T.b_check_letters (sa_cons (se_var 1) sa_nil)))
    (ss_cons (ss_expr (se_call (takes_of rfl rfl rfl rfl) (ok_check_orders T) ar_check_orders (hr.mono (by decide)) rfl T.g_check_orders T.k_check_orders T.b_check_orders (sa_cons se_str (sa_cons (se_var 2) (sa_cons (se_var 1) sa_nil)))))
    (ss_cons (ss_expr (se_call (takes_of rfl rfl rfl rfl) (ok_check_orders T) ar_check_orders (hr.mono (by decide)) rfl T.g_check_orders T.k_check_orders T.b_check_orders (sa_cons se_str (sa_cons (se_var 3) (sa_cons (se_var 1) sa_nil)))))
    (ss_cons (ss_fld "letters" ["TextRecipe"] (na_cons T.cl_TextRecipe T.na_TextRecipe_letters na_nil) (se_var 0) (se_var 1))
    (ss_cons (ss_fld "body" ["TextRecipe"] (na_cons T.cl_TextRecipe T.na_TextRecipe_body na_nil) (se_var 0) (se_callTy (d_list false) rfl T.n_list boot_list (sa_cons (se_var 2) sa_nil)))
    (ss_one (ss_fld "finish" ["TextRecipe"] (na_cons T.cl_TextRecipe T.na_TextRecipe_finish na_nil) (se_var 0) (se_callTy (d_list false) rfl T.n_list boot_list (sa_cons (se_var 3) sa_nil))))))))))
theorem sc_law_texts : FnScope ["deck", "letters", "texts", "layer", "size", "longer", "text", "signs", "turn", "at", "letter"] ["deck", "letters"] (defScope s_law_texts) := ⟨rfl, rfl, rfl, by decide +kernel, rfl, by decide +kernel, by decide +kernel⟩
theorem ok_law_texts (T : GOk w K mg cl g) : FnOk P w K mg base (L2.CX P w) 2 g.a_law_texts g.fd_law_texts ["deck", "letters"] (spD K w ⟨cl, none⟩ 2 f_law_texts) := by
  refine fn_frz (fn_ok T.F_law_texts sc_law_texts fun cdv A outer s H E hr => ?_)
  exact (ss_cons (ss_set 2 sc_law_texts.nd (se_new (sa_cons se_str sa_nil)))
    (ss_cons (ss_set 3 sc_law_texts.nd (se_lst (sa_cons se_str sa_nil)))
    (ss_cons (ss_for (passes_of rfl) rfl (si_range1 rfl T.n_range se_int) (sg_name 4 sc_law_texts.nd) (ss_cons (ss_set 5 sc_law_texts.nd (se_new sa_nil))
    (ss_cons (ss_for (passes_of rfl) rfl (si_any (se_var 3)) (sg_name 6 sc_law_texts.nd) (ss_one (ss_expr (se_mt PySem.F.plainAttrs_list PySem.F.slot_list_extend PySem.F.type_list_extend d_extend (se_var 5) (sa_cons (se_lcN rfl sc_law_texts.nd (si_any (se_var 1)) (own := [("letter", 10)]) (blkOk_by (by first | rfl | decide +kernel)) (.name 10 _ (by decide)) (fun _ _ _ _ _ => pg_name (i := 10) sc_law_texts.nd rfl (Or.inl rfl)) (fun _ _ _ _ _ => sp_nil) (fun _ _ _ _ _ => (se_op d_add (se_var 6) (se_var 10)))) sa_nil)))))
    (ss_cons (ss_set 3 sc_law_texts.nd (se_var 5))
    (ss_one (ss_set 2 sc_law_texts.nd (se_op d_addN (se_var 2) (se_var 3))))))))
    (ss_cons (ss_set 7 sc_law_texts.nd (se_op d_add (se_var 1) (se_op d_mulS se_str (se_callTy d_int rfl T.n_int boot_int (sa_cons (se_cmp (d_eq (room_u hr)) (se_call (takes_of rfl rfl rfl rfl) (ok_law_take T) ar_law_take (hr.mono (by decide)) rfl T.g_law_take T.k_law_take T.b_law_take (sa_cons (se_var 0) (sa_cons se_int sa_nil))) se_int) sa_nil)))))
    (ss_cons (ss_for (passes_of rfl) rfl (si_range1 rfl T.n_range se_int) (sg_name 8 sc_law_texts.nd) (ss_cons (ss_set 6 sc_law_texts.nd se_str)
    (ss_cons (ss_for (passes_of rfl) rfl (si_range1 rfl T.n_range (se_op d_mul (se_call (takes_of rfl rfl rfl rfl) (ok_law_take T) ar_law_take (hr.mono (by decide)) rfl T.g_law_take T.k_law_take T.b_law_take (sa_cons (se_var 0) (sa_cons se_int sa_nil))) (se_callTy d_int rfl T.n_int boot_int (sa_cons (se_cmp d_gt (se_callB d_len rfl T.n_len boot_len (sa_cons (se_var 7) sa_nil)) se_int) sa_nil)))) (sg_name 9 sc_law_texts.nd) (ss_one (ss_set 6 sc_law_texts.nd (se_op d_add (se_var 6) (se_ix (se_var 7) (se_call (takes_of rfl rfl rfl rfl) (ok_law_take T) ar_law_take (hr.mono (by decide)) rfl T.g_law_take T.k_law_take T.b_law_take (sa_cons (se_var 0) (sa_cons (se_callB d_len rfl T.n_len boot_len (sa_cons (se_var 7) sa_nil)) sa_nil))))))))
    (ss_one (ss_expr (se_mt PySem.F.plainAttrs_list PySem.F.slot_list_append PySem.F.type_list_append d_append (se_var 2) (sa_cons (se_var 6) sa_nil)))))))
    (ss_one (ss_ret (se_var 2))))))))
theorem sc_law_plain : FnScope ["value", "item"] ["value"] (defScope s_law_plain) := ⟨rfl, rfl, rfl, by decide +kernel, rfl, by decide +kernel, by decide +kernel⟩
theorem okb_law_plain {j : Nat} {G : List D → S → R D} (T : GOk w K mg cl g) (OKG : FnOk P w K mg base (L2.CX P w) (j + 1) g.a_law_plain g.fd_law_plain ["value"] (spD K w ⟨cl, none⟩ 1 G)) (arG : ∀ ds s, ds.length ≠ 1 → G ds s = .bad) :
    FnOk P w K mg base (L2.CX P w) (j + 1 + 1) g.a_law_plain g.fd_law_plain ["value"] (spD K w ⟨cl, none⟩ 1 (mkFn 1 2 (m_law_plain G))) := by
  refine fn_ok T.F_law_plain sc_law_plain fun cdv A outer s H E hr => ?_
  exact (ss_cons (ss_if (sb_tru (se_isiT rfl T.n_isinstance (se_var 0) (.cons (pe_tyn rfl T.n_tuple boot_tuple) rfl (.cons (pe_tyn rfl T.n_list boot_list) rfl .nil)) rfl (by decide))) (ss_one (ss_ret (se_op d_add (se_lst (sa_cons (se_isi1 rfl T.n_isinstance (se_var 0) (pe_tyn rfl T.n_list boot_list) rfl) sa_nil)) (se_lc rfl sc_law_plain.nd (si_any (se_var 0)) (own := [("item", 1)]) (blkOk_by (by first | rfl | decide +kernel)) (.name 1 _ (by decide)) (fun _ _ _ _ _ => pg_name (i := 1) sc_law_plain.nd rfl (Or.inl rfl)) (fun _ _ _ _ _ => sp_nil) (fun _ _ _ _ _ => (se_call takes0 OKG arG hr rfl T.g_law_plain T.k_law_plain T.b_law_plain (sa_cons (se_var 1) sa_nil))))))) ss_nil)
    (ss_cons (ss_if (sb_bool (sw_or (sb_cmp d_is (se_var 0) se_non) (sw_or1 (sb_tru (se_isi1 rfl T.n_isinstance (se_var 0) (pe_tyn rfl T.n_bool boot_bool) rfl))))) (ss_one (ss_ret (se_ix (se_lst (sa_cons se_str (sa_cons se_str (sa_cons se_str sa_nil)))) (se_op d_add (se_callTy d_int rfl T.n_int boot_int (sa_cons (se_cmp d_isnot (se_var 0) se_non) sa_nil)) (se_callTy d_int rfl T.n_int boot_int (sa_cons (se_cmp d_is (se_var 0) se_bl) sa_nil)))))) ss_nil)
    (ss_cons (ss_if (sb_tru (se_isiT rfl T.n_isinstance (se_var 0) (.cons (pe_tyn rfl T.n_int boot_int) rfl (.cons (pe_tyn rfl T.n_str boot_str) rfl .nil)) rfl (by decide))) (ss_one (ss_ret (se_lst (sa_cons (se_isi1 rfl T.n_isinstance (se_var 0) (pe_tyn rfl T.n_str boot_str) rfl) (sa_cons (se_var 0) sa_nil))))) ss_nil)
    (ss_one (ss_ret se_str)))))
theorem okn_law_plain (T : GOk w K mg cl g) : ∀ j : Nat, FnOk P w K mg base (L2.CX P w) (j + 1) g.a_law_plain g.fd_law_plain ["value"] (spD K w ⟨cl, none⟩ 1 (fn_law_plain j))
  | 0 => (fn_ok (k := 0) (m := sNever) T.F_law_plain sc_law_plain fun cdv A outer s H E hr => sss_never).mono (by omega)
  | j + 1 => by
    have h := okb_law_plain T (okn_law_plain T j) (arn_law_plain j)
    have e : j + 1 + 1 = j + 1 + 1 := by omega
    rw [e]
    exact h
theorem ok_law_plain (T : GOk w K mg cl g) : FnOk P w K mg base (L2.CX P w) 9 g.a_law_plain g.fd_law_plain ["value"] (spD K w ⟨cl, none⟩ 1 f_law_plain) := okn_law_plain T 8
theorem sc_Speller_init : FnScope ["self", "flags", "kept"] ["self", "flags", "kept"] (defScope s_Speller_init) := ⟨rfl, rfl, rfl, by decide +kernel, rfl, by decide +kernel, by decide +kernel⟩
theorem ok_Speller_init (T : GOk w K mg cl g) : FnOk P w K mg base (L2.CX P w) 1 g.a_Speller_init g.fd_Speller_init ["self", "flags", "kept"] (spD K w ⟨cl, none⟩ 3 f_Speller_init) := by
  refine fn_ok T.F_Speller_init sc_Speller_init fun cdv A outer s H E hr => ?_
  exact (ss_cons (ss_fld "flags" ["Speller"] (na_cons T.cl_Speller T.na_Speller_flags na_nil) (se_var 0) (se_callTy (d_list true) rfl T.n_list boot_list (sa_cons (se_var 1) sa_nil)))
    (ss_cons (ss_fld "kept" ["Speller"] (na_cons T.cl_Speller T.na_Speller_kept na_nil) (se_var 0) (se_var 2))
    (ss_one (ss_fld "written" ["Speller"] (na_cons T.cl_Speller T.na_Speller_written na_nil) (se_var 0) se_str))))
theorem sc_Speller_do : FnScope ["self", "order", "sign", "word"] ["self", "order", "sign"] (defScope s_Speller_do) := ⟨rfl, rfl, rfl, by decide +kernel, rfl, by decide +kernel, by decide +kernel⟩
theorem ok_Speller_do (T : GOk w K mg cl g) : FnOk P w K mg base (L2.CX P w) 1 g.a_Speller_do g.fd_Speller_do ["self", "order", "sign"] (spD K w ⟨cl, none⟩ 3 f_Speller_do) := by
  refine fn_ok T.F_Speller_do sc_Speller_do fun cdv A outer s H E hr => ?_
  exact (ss_cons (ss_set 3 sc_Speller_do.nd (se_ix (se_var 1) se_int))
    (ss_one (ss_if (sb_cmp (d_eq (room_u hr)) (se_var 3) se_str) (ss_one (ss_fldaug "written" ["Speller"] (na_cons T.cl_Speller T.na_Speller_written na_nil) d_iadd (se_var 0) (se_var 2))) (ss_one (ss_if (sb_cmp (d_eq (room_u hr)) (se_var 3) se_str) (ss_one (ss_fld "kept" ["Speller"] (na_cons T.cl_Speller T.na_Speller_kept na_nil) (se_var 0) (se_var 2))) (ss_one (ss_if (sb_cmp (d_eq (room_u hr)) (se_var 3) se_str) (ss_cons (ss_fldaug "written" ["Speller"] (na_cons T.cl_Speller T.na_Speller_written na_nil) d_iadd (se_var 0) (se_fld "kept" ["Speller"] (na_cons T.cl_Speller T.na_Speller_kept na_nil) (se_var 0)))
    (ss_one (ss_fld "kept" ["Speller"] (na_cons T.cl_Speller T.na_Speller_kept na_nil) (se_var 0) se_str))) (ss_one (ss_if (sb_cmp (d_eq (room_u hr)) (se_var 3) se_str) (ss_one (ss_fldaug "written" ["Speller"] (na_cons T.cl_Speller T.na_Speller_written na_nil) d_iadd (se_var 0) (se_ix (se_var 1) se_int))) (ss_one (ss_if (sb_cmp (d_in (room_u1 hr)) (se_var 3) (se_tup (sa_cons se_str (sa_cons se_str sa_nil)))) (ss_one (ss_asg (se_cmp (d_eq (room_u hr)) (se_var 3) se_str) (sg_sub (se_fld "flags" ["Speller"] (na_cons T.cl_Speller T.na_Speller_flags na_nil) (se_var 0)) (se_ix (se_var 1) se_int)))) ss_nil)))))))))))
theorem sc_Speller_skipped : FnScope ["self", "order", "sign", "word"] ["self", "order", "sign"] (defScope s_Speller_skipped) := ⟨rfl, rfl, rfl, by decide +kernel, rfl, by decide +kernel, by decide +kernel⟩
theorem ok_Speller_skipped (T : GOk w K mg cl g) : FnOk P w K mg base (L2.CX P w) 1 g.a_Speller_skipped g.fd_Speller_skipped ["self", "order", "sign"] (spD K w ⟨cl, none⟩ 3 f_Speller_skipped) := by
  refine fn_ok T.F_Speller_skipped sc_Speller_skipped fun cdv A outer s H E hr => ?_
  exact (ss_cons (ss_set 3 sc_Speller_skipped.nd (se_ix (se_var 1) se_int))
    (ss_cons (ss_if (sb_cmp (d_eq (room_u hr)) (se_var 3) se_str) (ss_one (ss_ret (se_ix (se_var 1) se_int))) ss_nil)
    (ss_cons (ss_if (sb_bool (sw_or (sb_bool (sw_and (sb_cmp (d_eq (room_u hr)) (se_var 3) se_str) (sw_and1 (sb_cmp (d_ne (room_u hr)) (se_ix (se_var 1) se_int) (se_var 2))))) (sw_or1 (sb_bool (sw_and (sb_cmp (d_eq (room_u hr)) (se_var 3) se_str) (sw_and1 (sb_cmp (d_ne (room_u hr)) (se_ix (se_var 1) se_int) (se_fld "kept" ["Speller"] (na_cons T.cl_Speller T.na_Speller_kept na_nil) (se_var 0))))))))) (ss_one (ss_ret (se_ix (se_var 1) se_int))) ss_nil)
    (ss_cons (ss_if (sb_bool (sw_or (sb_bool (sw_and (sb_cmp (d_eq (room_u hr)) (se_var 3) se_str) (sw_and1 (sb_not (sb_tru (se_ix (se_fld "flags" ["Speller"] (na_cons T.cl_Speller T.na_Speller_flags na_nil) (se_var 0)) (se_ix (se_var 1) se_int))))))) (sw_or1 (sb_bool (sw_and (sb_cmp (d_eq (room_u hr)) (se_var 3) se_str) (sw_and1 (sb_tru (se_ix (se_fld "flags" ["Speller"] (na_cons T.cl_Speller T.na_Speller_flags na_nil) (se_var 0)) (se_ix (se_var 1) se_int))))))))) (ss_one (ss_ret (se_ix (se_var 1) se_int))) ss_nil)
    (ss_one (ss_ret se_int))))))
theorem sc_Speller_execute : FnScope ["self", "orders", "sign", "path", "at", "order"] ["self", "orders", "sign"] (defScope s_Speller_execute) := ⟨rfl, rfl, rfl, by decide +kernel, rfl, by decide +kernel, by decide +kernel⟩
theorem ok_Speller_execute (T : GOk w K mg cl g) : FnOk P w K mg base (L2.CX P w) 2 g.a_Speller_execute g.fd_Speller_execute ["self", "orders", "sign"] (spD K w ⟨cl, none⟩ 3 f_Speller_execute) := by
  refine fn_frz (fn_ok T.F_Speller_execute sc_Speller_execute fun cdv A outer s H E hr => ?_)
  exact (ss_cons (ss_set 3 sc_Speller_execute.nd (se_new sa_nil))
    (ss_cons (ss_set 4 sc_Speller_execute.nd se_int)
    (ss_cons (ss_while (passes_of rfl) (sb_cmp d_lt (se_var 4) (se_callB d_len rfl T.n_len boot_len (sa_cons (se_var 1) sa_nil))) (ss_cons (ss_set 5 sc_Speller_execute.nd (se_ix (se_var 1) (se_var 4)))
    (ss_cons (ss_expr (se_mt PySem.F.plainAttrs_list PySem.F.slot_list_append PySem.F.type_list_append d_append (se_var 3) (sa_cons (se_var 4) sa_nil)))
    (ss_cons (ss_if (sb_cmp (d_in (room_u1 hr)) (se_ix (se_var 5) se_int) (se_tup (sa_cons se_str (sa_cons se_str sa_nil)))) (ss_one (ss_ret (se_tup (sa_cons (se_var 3) (sa_cons (se_cmp (d_eq (room_u hr)) (se_ix (se_var 5) se_int) se_str) sa_nil))))) ss_nil)
    (ss_cons (ss_expr (se_meth (takes_of rfl rfl rfl rfl) (.cons (mok T.cl_Speller T.cls_Speller T.me_Speller_do (ok_Speller_do T) ar_Speller_do (hr.mono (by decide)) T.b_Speller_do) .nil) (se_var 0) (sa_cons (se_var 5) (sa_cons (se_var 2) sa_nil))))
    (ss_one (ss_aug 4 sc_Speller_execute.nd d_iadd (se_op d_add se_int (se_meth (takes_of rfl rfl rfl rfl) (.cons (mok T.cl_Speller T.cls_Speller T.me_Speller_skipped (ok_Speller_skipped T) ar_Speller_skipped (hr.mono (by decide)) T.b_Speller_skipped) .nil) (se_var 0) (sa_cons (se_var 5) (sa_cons (se_var 2) sa_nil)))))))))))
    (ss_one (ss_ret (se_tup (sa_cons (se_var 3) (sa_cons se_bl sa_nil))))))))
theorem sc_text_image : FnScope ["recipe", "text", "speller", "sign"] ["recipe", "text"] (defScope s_text_image) := ⟨rfl, rfl, rfl, by decide +kernel, rfl, by decide +kernel, by decide +kernel⟩
theorem ok_text_image (T : GOk w K mg cl g) : FnOk P w K mg base (L2.CX P w) 3 g.a_text_image g.fd_text_image ["recipe", "text"] (spD K w ⟨cl, none⟩ 2 f_text_image) := by
  refine fn_frz (fn_ok T.F_text_image sc_text_image fun cdv A outer s H E hr => ?_)
  exact (ss_cons (ss_set 2 sc_text_image.nd (se_make "Speller" T.cl_Speller T.cls_Speller (takes_of rfl rfl rfl rfl) T.mk_Speller (ok_Speller_init T) ar_Speller_init (hr.mono (by decide)) rfl T.gc_Speller T.b_Speller_init (sa_cons (se_rep false (sa_cons se_bl sa_nil) (T.e_FLAGS rfl rfl)) (sa_cons se_str sa_nil))))
    (ss_cons (ss_for (passes_of rfl) rfl (si_any (se_var 1)) (sg_name 3 sc_text_image.nd) (ss_one (ss_if (sb_bool (sw_or (sb_cmp (d_notin (room_u1 hr)) (se_var 3) (se_fld "letters" ["TextRecipe"] (na_cons T.cl_TextRecipe T.na_TextRecipe_letters na_nil) (se_var 0))) (sw_or1 (sb_not (sb_tru (se_ix (se_meth (takes_of rfl rfl rfl rfl) (.cons (mok T.cl_Speller T.cls_Speller T.me_Speller_execute (ok_Speller_execute T) ar_Speller_execute (hr.mono (by decide)) T.b_Speller_execute) .nil) (se_var 2) (sa_cons (se_fld "body" ["TextRecipe"] (na_cons T.cl_TextRecipe T.na_TextRecipe_body na_nil) (se_var 0)) (sa_cons (se_var 3) sa_nil))) se_int)))))) (ss_one (ss_ret se_non)) ss_nil)))
    (ss_cons (ss_if (sb_not (sb_tru (se_ix (se_meth (takes_of rfl rfl rfl rfl) (.cons (mok T.cl_Speller T.cls_Speller T.me_Speller_execute (ok_Speller_execute T) ar_Speller_execute (hr.mono (by decide)) T.b_Speller_execute) .nil) (se_var 2) (sa_cons (se_fld "finish" ["TextRecipe"] (na_cons T.cl_TextRecipe T.na_TextRecipe_finish na_nil) (se_var 0)) (sa_cons se_str sa_nil))) se_int))) (ss_one (ss_ret se_non)) ss_nil)
    (ss_one (ss_ret (se_fld "written" ["Speller"] (na_cons T.cl_Speller T.na_Speller_written na_nil) (se_var 2)))))))
theorem sc_law_part : FnScope ["orders", "world", "sign", "at", "turn", "order", "word"] ["orders", "world", "sign"] (defScope s_law_part) := ⟨rfl, rfl, rfl, by decide +kernel, rfl, by decide +kernel, by decide +kernel⟩
theorem ok_law_part (T : GOk w K mg cl g) : FnOk P w K mg base (L2.CX P w) 1 g.a_law_part g.fd_law_part ["orders", "world", "sign"] (spD K w ⟨cl, none⟩ 3 f_law_part) := by
  refine fn_ok T.F_law_part sc_law_part fun cdv A outer s H E hr => ?_
  exact (ss_cons (ss_set 3 sc_law_part.nd se_int)
    (ss_cons (ss_for (passes_of rfl) rfl (si_range1 rfl T.n_range (se_callB d_len rfl T.n_len boot_len (sa_cons (se_var 0) sa_nil))) (sg_name 4 sc_law_part.nd) (ss_cons (ss_if (sb_cmp d_ge (se_var 3) (se_callB d_len rfl T.n_len boot_len (sa_cons (se_var 0) sa_nil))) (ss_one (ss_ret se_bl)) ss_nil)
    (ss_cons (ss_set 5 sc_law_part.nd (se_ix (se_var 0) (se_var 3)))
    (ss_cons (ss_set 6 sc_law_part.nd (se_ix (se_var 5) se_int))
    (ss_cons (ss_set 3 sc_law_part.nd (se_op d_add (se_var 3) se_int))
    (ss_cons (ss_if (sb_cmp (d_in (room_u1 hr)) (se_var 6) (se_lst (sa_cons se_str (sa_cons se_str sa_nil)))) (ss_one (ss_ret (se_cmp (d_eq (room_u hr)) (se_var 6) se_str))) ss_nil)
    (ss_one (ss_if (sb_cmp (d_eq (room_u hr)) (se_var 6) se_str) (ss_one (ss_asg (se_op d_add (se_ixK (hu_of hr) (se_var 1) se_str) (se_var 2)) (sg_subK (hu_of hr) (se_var 1) se_str))) (ss_one (ss_if (sb_cmp (d_eq (room_u hr)) (se_var 6) se_str) (ss_one (ss_asg (se_var 2) (sg_subK (hu_of hr) (se_var 1) se_str))) (ss_one (ss_if (sb_cmp (d_eq (room_u hr)) (se_var 6) se_str) (ss_cons (ss_asg (se_op d_add (se_ixK (hu_of hr) (se_var 1) se_str) (se_ixK (hu_of hr) (se_var 1) se_str)) (sg_subK (hu_of hr) (se_var 1) se_str))
    (ss_one (ss_asg se_str (sg_subK (hu_of hr) (se_var 1) se_str)))) (ss_one (ss_if (sb_cmp (d_eq (room_u hr)) (se_var 6) se_str) (ss_one (ss_asg (se_op d_add (se_ixK (hu_of hr) (se_var 1) se_str) (se_ix (se_var 5) se_int)) (sg_subK (hu_of hr) (se_var 1) se_str))) (ss_one (ss_if (sb_cmp (d_in (room_u1 hr)) (se_var 6) (se_lst (sa_cons se_str (sa_cons se_str sa_nil)))) (ss_one (ss_asg (se_cmp (d_eq (room_u hr)) (se_var 6) se_str) (sg_sub (se_ixK (hu_of hr) (se_var 1) se_str) (se_ix (se_var 5) se_int)))) (ss_one (ss_if (sb_cmp (d_eq (room_u hr)) (se_var 6) se_str) (ss_one (ss_set 3 sc_law_part.nd (se_op d_add (se_var 3) (se_ix (se_var 5) se_int)))) (ss_one (ss_if (sb_cmp (d_eq (room_u hr)) (se_var 6) se_str) (ss_one (ss_set 3 sc_law_part.nd (se_op d_add (se_var 3) (se_op d_mul (se_ix (se_var 5) se_int) (se_callTy d_int rfl T.n_int boot_int (sa_cons (se_cmp (d_ne (room_u hr)) (se_var 2) (se_ix (se_var 5) se_int)) sa_nil)))))) (ss_one (ss_if (sb_cmp (d_eq (room_u hr)) (se_var 6) se_str) (ss_one (ss_set 3 sc_law_part.nd (se_op d_add (se_var 3) (se_op d_mul (se_ix (se_var 5) se_int) (se_callTy d_int rfl T.n_int boot_int (sa_cons (se_cmp (d_ne (room_u hr)) (se_ixK (hu_of hr) (se_var 1) se_str) (se_ix (se_var 5) se_int)) sa_nil)))))) (ss_one (ss_set 3 sc_law_part.nd (se_op d_add (se_var 3) (se_op d_mul (se_ix (se_var 5) se_int) (se_callTy d_int rfl T.n_int boot_int (sa_cons (se_cmp (d_ne (room_u hr)) (se_ix (se_ixK (hu_of hr) (se_var 1) se_str) (se_ix (se_var 5) se_int)) (se_cmp (d_eq (room_u hr)) (se_var 6) se_str)) sa_nil))))))))))))))))))))))))))))
    (ss_one (ss_ret se_bl))))
theorem sc_law_spelt : FnScope ["recipe", "text", "letters", "body", "finish", "world", "sign"] ["recipe", "text"] (defScope s_law_spelt) := ⟨rfl, rfl, rfl, by decide +kernel, rfl, by decide +kernel, by decide +kernel⟩
theorem ok_law_spelt (T : GOk w K mg cl g) : FnOk P w K mg base (L2.CX P w) 2 g.a_law_spelt g.fd_law_spelt ["recipe", "text"] (spD K w ⟨cl, none⟩ 2 f_law_spelt) := by
  refine fn_frz (fn_ok T.F_law_spelt sc_law_spelt fun cdv A outer s H E hr => ?_)
  exact (ss_cons (ss_asg (se_var 0) (sg_tup rfl (sgs_cons (sg_name 2 sc_law_spelt.nd) (sgs_cons (sg_name 3 sc_law_spelt.nd) (sgs_cons (sg_name 4 sc_law_spelt.nd) sgs_nil)))))
    (ss_cons (ss_set 5 sc_law_spelt.nd (se_disp (spp_cons pe_str (se_new (sa_cons se_bl (sa_cons se_bl (sa_cons se_bl (sa_cons se_bl sa_nil))))) (spp_cons pe_str se_str (spp_cons pe_str se_str spp_nil)))))
    (ss_cons (ss_for (passes_of rfl) rfl (si_any (se_var 1)) (sg_name 6 sc_law_spelt.nd) (ss_one (ss_if (sb_bool (sw_or (sb_cmp (d_notin (room_u1 hr)) (se_var 6) (se_var 2)) (sw_or1 (sb_not (sb_tru (se_call (takes_of rfl rfl rfl rfl) (ok_law_part T) ar_law_part (hr.mono (by decide)) rfl T.g_law_part T.k_law_part T.b_law_part (sa_cons (se_var 3) (sa_cons (se_var 5) (sa_cons (se_var 6) sa_nil))))))))) (ss_one (ss_ret se_non)) ss_nil)))
    (ss_one (ss_ret (se_if (sb_tru (se_call (takes_of rfl rfl rfl rfl) (ok_law_part T) ar_law_part (hr.mono (by decide)) rfl T.g_law_part T.k_law_part T.b_law_part (sa_cons (se_var 4) (sa_cons (se_var 5) (sa_cons se_str sa_nil))))) (se_ixK (hu_of hr) (se_var 5) se_str) se_non))))))
theorem sc_law : FnScope ["script", "deck", "recipe", "letters", "body", "finish", "passed", "made", "texts", "turn", "text"] ["script"] (defScope s_law) := ⟨rfl, rfl, rfl, by decide +kernel, rfl, by decide +kernel, by decide +kernel⟩
theorem ok_law (T : GOk w K mg cl g) : FnOk P w K mg base (L2.CX P w) 10 g.a_law g.fd_law ["script"] (spD K w ⟨cl, none⟩ 1 f_law) := by
  refine fn_ok T.F_law sc_law fun cdv A outer s H E hr => ?_
  exact (ss_cons (ss_set 1 sc_law.nd (se_call (takes_of rfl rfl rfl rfl) (ok_law_deck T) ar_law_deck (hr.mono (by decide)) rfl T.g_law_deck T.k_law_deck T.b_law_deck (sa_cons (se_var 0) (sa_cons se_int (sa_cons se_int sa_nil)))))
    (ss_cons (ss_set 2 sc_law.nd (se_call (takes_of rfl rfl rfl rfl) (ok_law_text_recipe T) ar_law_text_recipe (hr.mono (by decide)) rfl T.g_law_text_recipe T.k_law_text_recipe T.b_law_text_recipe (sa_cons (se_var 1) sa_nil)))
    (ss_cons (ss_asg (se_var 2) (sg_tup rfl (sgs_cons (sg_name 3 sc_law.nd) (sgs_cons (sg_name 4 sc_law.nd) (sgs_cons (sg_name 5 sc_law.nd) sgs_nil)))))
    (ss_cons (ss_set 6 sc_law.nd (se_new (sa_cons (se_callTy (d_list true) rfl T.n_list boot_list (sa_cons (se_var 4) sa_nil)) (sa_cons (se_callTy (d_list true) rfl T.n_list boot_list (sa_cons (se_var 5) sa_nil)) sa_nil))))
    (ss_cons (ss_set 7 sc_law.nd (se_frz (se_make "TextRecipe" T.cl_TextRecipe T.cls_TextRecipe (takes_of rfl rfl rfl rfl) T.mk_TextRecipe (ok_TextRecipe_init T) ar_TextRecipe_init (hr.mono (by decide)) rfl T.gc_TextRecipe T.b_TextRecipe_init (sa_cons (se_var 3) (sa_cons (se_ix (se_var 6) se_int) (sa_cons (se_ix (se_var 6) se_int) sa_nil))))))
    (ss_cons (ss_set 8 sc_law.nd (se_call (takes_of rfl rfl rfl rfl) (ok_law_texts T) ar_law_texts (hr.mono (by decide)) rfl T.g_law_texts T.k_law_texts T.b_law_texts (sa_cons (se_var 1) (sa_cons (se_var 3) sa_nil))))
    (ss_cons (ss_for (passes_of rfl) rfl (si_range1 rfl T.n_range se_int) (sg_name 9 sc_law.nd) (sss_cut (ss_cons (ss_if (sb_cmp (d_ne (room_u hr)) (se_call (takes_of rfl rfl rfl rfl) (ok_law_plain T) ar_law_plain (hr.mono (by decide)) rfl T.g_law_plain T.k_law_plain T.b_law_plain (sa_cons (se_lst (sa_cons (se_fld "letters" ["TextRecipe"] (na_cons T.cl_TextRecipe T.na_TextRecipe_letters na_nil) (se_var 7)) (sa_cons (se_fld "body" ["TextRecipe"] (na_cons T.cl_TextRecipe T.na_TextRecipe_body na_nil) (se_var 7)) (sa_cons (se_fld "finish" ["TextRecipe"] (na_cons T.cl_TextRecipe T.na_TextRecipe_finish na_nil) (se_var 7)) sa_nil)))) sa_nil)) (se_call (takes_of rfl rfl rfl rfl) (ok_law_plain T) ar_law_plain (hr.mono (by decide)) rfl T.g_law_plain T.k_law_plain T.b_law_plain (sa_cons (se_lst (sa_cons (se_var 3) (sa_cons (se_var 4) (sa_cons (se_var 5) sa_nil)))) sa_nil))) (ss_one (ss_ret se_bl)) ss_nil)
    (ss_cons (ss_for (passes_of rfl) rfl (si_any (se_var 8)) (sg_name 10 sc_law.nd) (ss_one (ss_if (sb_cmp (d_ne (room_u hr)) (se_call (takes_of rfl rfl rfl rfl) (ok_law_plain T) ar_law_plain (hr.mono (by decide)) rfl T.g_law_plain T.k_law_plain T.b_law_plain (sa_cons (se_call (takes_of rfl rfl rfl rfl) (ok_text_image T) ar_text_image (hr.mono (by decide)) rfl T.g_text_image T.k_text_image T.b_text_image (sa_cons (se_var 7) (sa_cons (se_var 10) sa_nil))) sa_nil)) (se_call (takes_of rfl rfl rfl rfl) (ok_law_plain T) ar_law_plain (hr.mono (by decide)) rfl T.g_law_plain T.k_law_plain T.b_law_plain (sa_cons (se_call (takes_of rfl rfl rfl rfl) (ok_law_spelt T) ar_law_spelt (hr.mono (by decide)) rfl T.g_law_spelt T.k_law_spelt T.b_law_spelt (sa_cons (se_var 2) (sa_cons (se_var 10) sa_nil))) sa_nil))) (ss_one (ss_ret se_bl)) ss_nil)))
    (ss_cons (ss_expr (se_mt PySem.F.plainAttrs_list PySem.F.slot_list_append PySem.F.type_list_append d_append (se_ix (se_var 6) se_int) (sa_cons (se_tup (sa_cons se_str sa_nil)) sa_nil)))
    (ss_one (ss_expr (se_mt PySem.F.plainAttrs_list PySem.F.slot_list_append PySem.F.type_list_append d_append (se_ix (se_var 6) se_int) (sa_cons (se_tup (sa_cons se_str sa_nil)) sa_nil)))))))))
    (ss_one (ss_ret se_bl)))))))))
end
theorem all_mk {l : PySem.W.OpenLaw} {w : World} {K : PySem.W.Frag} {h : Heap} {mg : Str → Option Value} {fa : Addr} (X : K.In h) (G : h.Ns mainGlobals mg) (hfa : mg "law" = some (.ref fa))
    {a_law_deck : Addr} {od_law_deck an_law_deck : Option Addr} {sl_law_deck : Array (Option Value)} {oc_law_deck kV_law_deck dc_law_deck pm_law_deck cd_law_deck ct_law_deck : Value}
    {a_law_take : Addr} {od_law_take an_law_take : Option Addr} {sl_law_take : Array (Option Value)} {oc_law_take kV_law_take dc_law_take pm_law_take cd_law_take ct_law_take : Value}
    {a_law_text_order : Addr} {od_law_text_order an_law_text_order : Option Addr} {sl_law_text_order : Array (Option Value)} {oc_law_text_order kV_law_text_order dc_law_text_order pm_law_text_order cd_law_text_order ct_law_text_order : Value}
    {a_law_text_recipe : Addr} {od_law_text_recipe an_law_text_recipe : Option Addr} {sl_law_text_recipe : Array (Option Value)} {oc_law_text_recipe kV_law_text_recipe dc_law_text_recipe pm_law_text_recipe cd_law_text_recipe ct_law_text_recipe : Value}
    {a_check_letters : Addr} {od_check_letters an_check_letters : Option Addr} {sl_check_letters : Array (Option Value)} {oc_check_letters kV_check_letters dc_check_letters pm_check_letters cd_check_letters ct_check_letters : Value}
    {a_shape_of : Addr} {od_shape_of an_shape_of : Option Addr} {sl_shape_of : Array (Option Value)} {oc_shape_of kV_shape_of dc_shape_of pm_shape_of cd_shape_of ct_shape_of : Value}
    {a_fits : Addr} {od_fits an_fits : Option Addr} {sl_fits : Array (Option Value)} {oc_fits kV_fits dc_fits pm_fits cd_fits ct_fits : Value}
    {a_allowed : Addr} {od_allowed an_allowed : Option Addr} {sl_allowed : Array (Option Value)} {oc_allowed kV_allowed dc_allowed pm_allowed cd_allowed ct_allowed : Value}
    {a_check_orders : Addr} {od_check_orders an_check_orders : Option Addr} {sl_check_orders : Array (Option Value)} {oc_check_orders kV_check_orders dc_check_orders pm_check_orders cd_check_orders ct_check_orders : Value}
    {a_TextRecipe_init : Addr} {od_TextRecipe_init an_TextRecipe_init : Option Addr} {sl_TextRecipe_init : Array (Option Value)} {oc_TextRecipe_init kV_TextRecipe_init dc_TextRecipe_init pm_TextRecipe_init cd_TextRecipe_init ct_TextRecipe_init : Value}
    {a_law_texts : Addr} {od_law_texts an_law_texts : Option Addr} {sl_law_texts : Array (Option Value)} {oc_law_texts kV_law_texts dc_law_texts pm_law_texts cd_law_texts ct_law_texts : Value}
    {a_law_plain : Addr} {od_law_plain an_law_plain : Option Addr} {sl_law_plain : Array (Option Value)} {oc_law_plain kV_law_plain dc_law_plain pm_law_plain cd_law_plain ct_law_plain : Value}
    {a_Speller_init : Addr} {od_Speller_init an_Speller_init : Option Addr} {sl_Speller_init : Array (Option Value)} {oc_Speller_init kV_Speller_init dc_Speller_init pm_Speller_init cd_Speller_init ct_Speller_init : Value}
    {a_Speller_do : Addr} {od_Speller_do an_Speller_do : Option Addr} {sl_Speller_do : Array (Option Value)} {oc_Speller_do kV_Speller_do dc_Speller_do pm_Speller_do cd_Speller_do ct_Speller_do : Value}
    {a_Speller_skipped : Addr} {od_Speller_skipped an_Speller_skipped : Option Addr} {sl_Speller_skipped : Array (Option Value)} {oc_Speller_skipped kV_Speller_skipped dc_Speller_skipped pm_Speller_skipped cd_Speller_skipped ct_Speller_skipped : Value}
    {a_Speller_execute : Addr} {od_Speller_execute an_Speller_execute : Option Addr} {sl_Speller_execute : Array (Option Value)} {oc_Speller_execute kV_Speller_execute dc_Speller_execute pm_Speller_execute cd_Speller_execute ct_Speller_execute : Value}
    {a_text_image : Addr} {od_text_image an_text_image : Option Addr} {sl_text_image : Array (Option Value)} {oc_text_image kV_text_image dc_text_image pm_text_image cd_text_image ct_text_image : Value}
    {a_law_part : Addr} {od_law_part an_law_part : Option Addr} {sl_law_part : Array (Option Value)} {oc_law_part kV_law_part dc_law_part pm_law_part cd_law_part ct_law_part : Value}
    {a_law_spelt : Addr} {od_law_spelt an_law_spelt : Option Addr} {sl_law_spelt : Array (Option Value)} {oc_law_spelt kV_law_spelt dc_law_spelt pm_law_spelt cd_law_spelt ct_law_spelt : Value}
    {a_law : Addr} {od_law an_law : Option Addr} {sl_law : Array (Option Value)} {oc_law kV_law dc_law pm_law cd_law ct_law : Value}
    {C_Speller : Addr}
    {C_TextRecipe : Addr}
    {A_BODY_ORDERS : Addr} {n_BODY_ORDERS : Nat}
    {t_BODY_ORDERS_0 : Tok}
    {t_BODY_ORDERS_1 : Tok}
    {t_BODY_ORDERS_2 : Tok}
    {t_BODY_ORDERS_3 : Tok}
    {t_BODY_ORDERS_4 : Tok}
    {t_BODY_ORDERS_5 : Tok}
    {t_BODY_ORDERS_6 : Tok}
    {t_BODY_ORDERS_7 : Tok}
    {t_BODY_ORDERS_8 : Tok}
    {t_BODY_ORDERS_9 : Tok}
    {t_BODY_ORDERS_10 : Tok}
    {t_BODY_ORDERS_11 : Tok}
    {t_BODY_ORDERS_12 : Tok}
    {k_BODY_ORDERS_0 : Tok}
    {k_BODY_ORDERS_1 : Tok}
    {k_BODY_ORDERS_2 : Tok}
    {k_BODY_ORDERS_3 : Tok}
    {k_BODY_ORDERS_4 : Tok}
    {k_BODY_ORDERS_5 : Tok}
    {k_BODY_ORDERS_6 : Tok}
    {k_BODY_ORDERS_7 : Tok}
    {k_BODY_ORDERS_8 : Tok}
    {k_BODY_ORDERS_9 : Tok}
    {k_BODY_ORDERS_10 : Tok}
    {k_BODY_ORDERS_11 : Tok}
    {k_BODY_ORDERS_12 : Tok}
    {A_BOUNDS : Addr} {n_BOUNDS : Nat}
    {t_BOUNDS_0 : Tok}
    {t_BOUNDS_1 : Tok}
    {k_BOUNDS_0 : Tok}
    {k_BOUNDS_1 : Tok}
    {A_FINISH_ORDERS : Addr} {n_FINISH_ORDERS : Nat}
    {t_FINISH_ORDERS_0 : Tok}
    {t_FINISH_ORDERS_1 : Tok}
    {t_FINISH_ORDERS_2 : Tok}
    {t_FINISH_ORDERS_3 : Tok}
    {t_FINISH_ORDERS_4 : Tok}
    {t_FINISH_ORDERS_5 : Tok}
    {t_FINISH_ORDERS_6 : Tok}
    {t_FINISH_ORDERS_7 : Tok}
    {t_FINISH_ORDERS_8 : Tok}
    {t_FINISH_ORDERS_9 : Tok}
    {k_FINISH_ORDERS_0 : Tok}
    {k_FINISH_ORDERS_1 : Tok}
    {k_FINISH_ORDERS_2 : Tok}
    {k_FINISH_ORDERS_3 : Tok}
    {k_FINISH_ORDERS_4 : Tok}
    {k_FINISH_ORDERS_5 : Tok}
    {k_FINISH_ORDERS_6 : Tok}
    {k_FINISH_ORDERS_7 : Tok}
    {k_FINISH_ORDERS_8 : Tok}
    {k_FINISH_ORDERS_9 : Tok}
    {t_FLAGS : Tok}
    {t_LETTERS : Tok}
    {t_MOST_DIVISOR : Tok}
    {t_MOST_ORDERS : Tok}
    {A_NUMBER_ORDERS : Addr} {n_NUMBER_ORDERS : Nat}
    {t_NUMBER_ORDERS_0 : Tok}
    {t_NUMBER_ORDERS_1 : Tok}
    {t_NUMBER_ORDERS_2 : Tok}
    {t_NUMBER_ORDERS_3 : Tok}
    {t_NUMBER_ORDERS_4 : Tok}
    {t_NUMBER_ORDERS_5 : Tok}
    {t_NUMBER_ORDERS_6 : Tok}
    {t_NUMBER_ORDERS_7 : Tok}
    {t_NUMBER_ORDERS_8 : Tok}
    {t_NUMBER_ORDERS_9 : Tok}
    {t_NUMBER_ORDERS_10 : Tok}
    {k_NUMBER_ORDERS_0 : Tok}
    {k_NUMBER_ORDERS_1 : Tok}
    {k_NUMBER_ORDERS_2 : Tok}
    {k_NUMBER_ORDERS_3 : Tok}
    {k_NUMBER_ORDERS_4 : Tok}
    {k_NUMBER_ORDERS_5 : Tok}
    {k_NUMBER_ORDERS_6 : Tok}
    {k_NUMBER_ORDERS_7 : Tok}
    {k_NUMBER_ORDERS_8 : Tok}
    {k_NUMBER_ORDERS_9 : Tok}
    {k_NUMBER_ORDERS_10 : Tok}
    (n_law_deck : PySem.W.nsIn K mainGlobals "_law_deck" = some (some (.ref a_law_deck)))
    (n_law_take : PySem.W.nsIn K mainGlobals "_law_take" = some (some (.ref a_law_take)))
    (n_law_text_order : PySem.W.nsIn K mainGlobals "_law_text_order" = some (some (.ref a_law_text_order)))
    (n_law_text_recipe : PySem.W.nsIn K mainGlobals "_law_text_recipe" = some (some (.ref a_law_text_recipe)))
    (n_check_letters : PySem.W.nsIn K mainGlobals "check_letters" = some (some (.ref a_check_letters)))
    (n_shape_of : PySem.W.nsIn K mainGlobals "shape_of" = some (some (.ref a_shape_of)))
    (n_fits : PySem.W.nsIn K mainGlobals "fits" = some (some (.ref a_fits)))
    (n_allowed : PySem.W.nsIn K mainGlobals "allowed" = some (some (.ref a_allowed)))
    (n_check_orders : PySem.W.nsIn K mainGlobals "check_orders" = some (some (.ref a_check_orders)))
    (n_law_texts : PySem.W.nsIn K mainGlobals "_law_texts" = some (some (.ref a_law_texts)))
    (n_law_plain : PySem.W.nsIn K mainGlobals "_law_plain" = some (some (.ref a_law_plain)))
    (n_text_image : PySem.W.nsIn K mainGlobals "text_image" = some (some (.ref a_text_image)))
    (n_law_part : PySem.W.nsIn K mainGlobals "_law_part" = some (some (.ref a_law_part)))
    (n_law_spelt : PySem.W.nsIn K mainGlobals "_law_spelt" = some (some (.ref a_law_spelt)))
    (n_law : PySem.W.nsIn K mainGlobals "law" = some (some (.ref a_law)))
    (nc_Speller : PySem.W.nsIn K mainGlobals "Speller" = some (some (.ref C_Speller)))
    (nc_TextRecipe : PySem.W.nsIn K mainGlobals "TextRecipe" = some (some (.ref C_TextRecipe)))
    (l_law_deck : K.lookup a_law_deck = some ⟨oc_law_deck, od_law_deck, .func (PySem.W.fnOf "_law_deck" "_law_deck" (defArgs s_law_deck) (defBody s_law_deck) (defScope s_law_deck) .none kV_law_deck dc_law_deck pm_law_deck an_law_deck cd_law_deck ct_law_deck), sl_law_deck⟩)
    (c_law_deck : PySem.W.codeIn K cd_law_deck "_law_deck" = true)
    (k_law_deck : PySem.W.keepIn K (.ref a_law_deck) = true)
    (l_law_take : K.lookup a_law_take = some ⟨oc_law_take, od_law_take, .func (PySem.W.fnOf "_law_take" "_law_take" (defArgs s_law_take) (defBody s_law_take) (defScope s_law_take) .none kV_law_take dc_law_take pm_law_take an_law_take cd_law_take ct_law_take), sl_law_take⟩)
    (c_law_take : PySem.W.codeIn K cd_law_take "_law_take" = true)
    (k_law_take : PySem.W.keepIn K (.ref a_law_take) = true)
    (l_law_text_order : K.lookup a_law_text_order = some ⟨oc_law_text_order, od_law_text_order, .func (PySem.W.fnOf "_law_text_order" "_law_text_order" (defArgs s_law_text_order) (defBody s_law_text_order) (defScope s_law_text_order) .none kV_law_text_order dc_law_text_order pm_law_text_order an_law_text_order cd_law_text_order ct_law_text_order), sl_law_text_order⟩)
    (c_law_text_order : PySem.W.codeIn K cd_law_text_order "_law_text_order" = true)
    (k_law_text_order : PySem.W.keepIn K (.ref a_law_text_order) = true)
    (l_law_text_recipe : K.lookup a_law_text_recipe = some ⟨oc_law_text_recipe, od_law_text_recipe, .func (PySem.W.fnOf "_law_text_recipe" "_law_text_recipe" (defArgs s_law_text_recipe) (defBody s_law_text_recipe) (defScope s_law_text_recipe) .none kV_law_text_recipe dc_law_text_recipe pm_law_text_recipe an_law_text_recipe cd_law_text_recipe ct_law_text_recipe), sl_law_text_recipe⟩)
    (c_law_text_recipe : PySem.W.codeIn K cd_law_text_recipe "_law_text_recipe" = true)
    (k_law_text_recipe : PySem.W.keepIn K (.ref a_law_text_recipe) = true)
    (l_check_letters : K.lookup a_check_letters = some ⟨oc_check_letters, od_check_letters, .func (PySem.W.fnOf "check_letters" "check_letters" (defArgs s_check_letters) (defBody s_check_letters) (defScope s_check_letters) .none kV_check_letters dc_check_letters pm_check_letters an_check_letters cd_check_letters ct_check_letters), sl_check_letters⟩)
    (c_check_letters : PySem.W.codeIn K cd_check_letters "check_letters" = true)
    (k_check_letters : PySem.W.keepIn K (.ref a_check_letters) = true)
    (l_shape_of : K.lookup a_shape_of = some ⟨oc_shape_of, od_shape_of, .func (PySem.W.fnOf "shape_of" "shape_of" (defArgs s_shape_of) (defBody s_shape_of) (defScope s_shape_of) .none kV_shape_of dc_shape_of pm_shape_of an_shape_of cd_shape_of ct_shape_of), sl_shape_of⟩)
    (c_shape_of : PySem.W.codeIn K cd_shape_of "shape_of" = true)
    (k_shape_of : PySem.W.keepIn K (.ref a_shape_of) = true)
    (l_fits : K.lookup a_fits = some ⟨oc_fits, od_fits, .func (PySem.W.fnOf "fits" "fits" (defArgs s_fits) (defBody s_fits) (defScope s_fits) .none kV_fits dc_fits pm_fits an_fits cd_fits ct_fits), sl_fits⟩)
    (c_fits : PySem.W.codeIn K cd_fits "fits" = true)
    (k_fits : PySem.W.keepIn K (.ref a_fits) = true)
    (l_allowed : K.lookup a_allowed = some ⟨oc_allowed, od_allowed, .func (PySem.W.fnOf "allowed" "allowed" (defArgs s_allowed) (defBody s_allowed) (defScope s_allowed) .none kV_allowed dc_allowed pm_allowed an_allowed cd_allowed ct_allowed), sl_allowed⟩)
    (c_allowed : PySem.W.codeIn K cd_allowed "allowed" = true)
    (k_allowed : PySem.W.keepIn K (.ref a_allowed) = true)
    (l_check_orders : K.lookup a_check_orders = some ⟨oc_check_orders, od_check_orders, .func (PySem.W.fnOf "check_orders" "check_orders" (defArgs s_check_orders) (defBody s_check_orders) (defScope s_check_orders) .none kV_check_orders dc_check_orders pm_check_orders an_check_orders cd_check_orders ct_check_orders), sl_check_orders⟩)
    (c_check_orders : PySem.W.codeIn K cd_check_orders "check_orders" = true)
    (k_check_orders : PySem.W.keepIn K (.ref a_check_orders) = true)
    (at_TextRecipe_init : PySem.W.findIn K (.ref C_TextRecipe) "__init__" = some (some (.ref a_TextRecipe_init)))
    (if_TextRecipe_init : PySem.W.isFn K (.ref a_TextRecipe_init) = true)
    (l_TextRecipe_init : K.lookup a_TextRecipe_init = some ⟨oc_TextRecipe_init, od_TextRecipe_init, .func (PySem.W.fnOf "__init__" "TextRecipe.__init__" (defArgs s_TextRecipe_init) (defBody s_TextRecipe_init) (defScope s_TextRecipe_init) .none kV_TextRecipe_init dc_TextRecipe_init pm_TextRecipe_init an_TextRecipe_init cd_TextRecipe_init ct_TextRecipe_init), sl_TextRecipe_init⟩)
    (c_TextRecipe_init : PySem.W.codeIn K cd_TextRecipe_init "TextRecipe.__init__" = true)
    (k_TextRecipe_init : PySem.W.keepIn K (.ref a_TextRecipe_init) = true)
    (l_law_texts : K.lookup a_law_texts = some ⟨oc_law_texts, od_law_texts, .func (PySem.W.fnOf "_law_texts" "_law_texts" (defArgs s_law_texts) (defBody s_law_texts) (defScope s_law_texts) .none kV_law_texts dc_law_texts pm_law_texts an_law_texts cd_law_texts ct_law_texts), sl_law_texts⟩)
    (c_law_texts : PySem.W.codeIn K cd_law_texts "_law_texts" = true)
    (k_law_texts : PySem.W.keepIn K (.ref a_law_texts) = true)
    (l_law_plain : K.lookup a_law_plain = some ⟨oc_law_plain, od_law_plain, .func (PySem.W.fnOf "_law_plain" "_law_plain" (defArgs s_law_plain) (defBody s_law_plain) (defScope s_law_plain) .none kV_law_plain dc_law_plain pm_law_plain an_law_plain cd_law_plain ct_law_plain), sl_law_plain⟩)
    (c_law_plain : PySem.W.codeIn K cd_law_plain "_law_plain" = true)
    (k_law_plain : PySem.W.keepIn K (.ref a_law_plain) = true)
    (at_Speller_init : PySem.W.findIn K (.ref C_Speller) "__init__" = some (some (.ref a_Speller_init)))
    (if_Speller_init : PySem.W.isFn K (.ref a_Speller_init) = true)
    (l_Speller_init : K.lookup a_Speller_init = some ⟨oc_Speller_init, od_Speller_init, .func (PySem.W.fnOf "__init__" "Speller.__init__" (defArgs s_Speller_init) (defBody s_Speller_init) (defScope s_Speller_init) .none kV_Speller_init dc_Speller_init pm_Speller_init an_Speller_init cd_Speller_init ct_Speller_init), sl_Speller_init⟩)
    (c_Speller_init : PySem.W.codeIn K cd_Speller_init "Speller.__init__" = true)
    (k_Speller_init : PySem.W.keepIn K (.ref a_Speller_init) = true)
    (at_Speller_do : PySem.W.findIn K (.ref C_Speller) "do" = some (some (.ref a_Speller_do)))
    (if_Speller_do : PySem.W.isFn K (.ref a_Speller_do) = true)
    (l_Speller_do : K.lookup a_Speller_do = some ⟨oc_Speller_do, od_Speller_do, .func (PySem.W.fnOf "do" "Speller.do" (defArgs s_Speller_do) (defBody s_Speller_do) (defScope s_Speller_do) .none kV_Speller_do dc_Speller_do pm_Speller_do an_Speller_do cd_Speller_do ct_Speller_do), sl_Speller_do⟩)
    (c_Speller_do : PySem.W.codeIn K cd_Speller_do "Speller.do" = true)
    (k_Speller_do : PySem.W.keepIn K (.ref a_Speller_do) = true)
    (at_Speller_skipped : PySem.W.findIn K (.ref C_Speller) "skipped" = some (some (.ref a_Speller_skipped)))
    (if_Speller_skipped : PySem.W.isFn K (.ref a_Speller_skipped) = true)
    (l_Speller_skipped : K.lookup a_Speller_skipped = some ⟨oc_Speller_skipped, od_Speller_skipped, .func (PySem.W.fnOf "skipped" "Speller.skipped" (defArgs s_Speller_skipped) (defBody s_Speller_skipped) (defScope s_Speller_skipped) .none kV_Speller_skipped dc_Speller_skipped pm_Speller_skipped an_Speller_skipped cd_Speller_skipped ct_Speller_skipped), sl_Speller_skipped⟩)
    (c_Speller_skipped : PySem.W.codeIn K cd_Speller_skipped "Speller.skipped" = true)
    (k_Speller_skipped : PySem.W.keepIn K (.ref a_Speller_skipped) = true)
    (at_Speller_execute : PySem.W.findIn K (.ref C_Speller) "execute" = some (some (.ref a_Speller_execute)))
    (if_Speller_execute : PySem.W.isFn K (.ref a_Speller_execute) = true)
    (l_Speller_execute : K.lookup a_Speller_execute = some ⟨oc_Speller_execute, od_Speller_execute, .func (PySem.W.fnOf "execute" "Speller.execute" (defArgs s_Speller_execute) (defBody s_Speller_execute) (defScope s_Speller_execute) .none kV_Speller_execute dc_Speller_execute pm_Speller_execute an_Speller_execute cd_Speller_execute ct_Speller_execute), sl_Speller_execute⟩)
    (c_Speller_execute : PySem.W.codeIn K cd_Speller_execute "Speller.execute" = true)
    (k_Speller_execute : PySem.W.keepIn K (.ref a_Speller_execute) = true)
    (l_text_image : K.lookup a_text_image = some ⟨oc_text_image, od_text_image, .func (PySem.W.fnOf "text_image" "text_image" (defArgs s_text_image) (defBody s_text_image) (defScope s_text_image) .none kV_text_image dc_text_image pm_text_image an_text_image cd_text_image ct_text_image), sl_text_image⟩)
    (c_text_image : PySem.W.codeIn K cd_text_image "text_image" = true)
    (k_text_image : PySem.W.keepIn K (.ref a_text_image) = true)
    (l_law_part : K.lookup a_law_part = some ⟨oc_law_part, od_law_part, .func (PySem.W.fnOf "_law_part" "_law_part" (defArgs s_law_part) (defBody s_law_part) (defScope s_law_part) .none kV_law_part dc_law_part pm_law_part an_law_part cd_law_part ct_law_part), sl_law_part⟩)
    (c_law_part : PySem.W.codeIn K cd_law_part "_law_part" = true)
    (k_law_part : PySem.W.keepIn K (.ref a_law_part) = true)
    (l_law_spelt : K.lookup a_law_spelt = some ⟨oc_law_spelt, od_law_spelt, .func (PySem.W.fnOf "_law_spelt" "_law_spelt" (defArgs s_law_spelt) (defBody s_law_spelt) (defScope s_law_spelt) .none kV_law_spelt dc_law_spelt pm_law_spelt an_law_spelt cd_law_spelt ct_law_spelt), sl_law_spelt⟩)
    (c_law_spelt : PySem.W.codeIn K cd_law_spelt "_law_spelt" = true)
    (k_law_spelt : PySem.W.keepIn K (.ref a_law_spelt) = true)
    (l_law : K.lookup a_law = some ⟨oc_law, od_law, .func (PySem.W.fnOf "law" "law" (defArgs s_law) (defBody s_law) (defScope s_law) .none kV_law dc_law pm_law an_law cd_law ct_law), sl_law⟩)
    (c_law : PySem.W.codeIn K cd_law "law" = true)
    (k_law : PySem.W.keepIn K (.ref a_law) = true)
    (pg_Speller : PySem.W.plainGet K C_Speller Str.empty = true)
    (hd_Speller : PySem.W.hasDictIn K C_Speller = true)
    (po_Speller : PySem.W.plainOver K C_Speller = true)
    (sa_Speller : PySem.W.findIn K (.ref C_Speller) "__setattr__" = some (some (.builtin "object.__setattr__")))
    (mk_Speller : PySem.W.makesIn K C_Speller = true)
    (kc_Speller : PySem.W.keepIn K (.ref C_Speller) = true)
    (pg_TextRecipe : PySem.W.plainGet K C_TextRecipe Str.empty = true)
    (hd_TextRecipe : PySem.W.hasDictIn K C_TextRecipe = true)
    (po_TextRecipe : PySem.W.plainOver K C_TextRecipe = true)
    (sa_TextRecipe : PySem.W.findIn K (.ref C_TextRecipe) "__setattr__" = some (some (.builtin "object.__setattr__")))
    (mk_TextRecipe : PySem.W.makesIn K C_TextRecipe = true)
    (kc_TextRecipe : PySem.W.keepIn K (.ref C_TextRecipe) = true)
    (na_Speller_flags : PySem.W.findIn K (.ref C_Speller) "flags" = some none)
    (na_Speller_kept : PySem.W.findIn K (.ref C_Speller) "kept" = some none)
    (na_Speller_written : PySem.W.findIn K (.ref C_Speller) "written" = some none)
    (na_TextRecipe_body : PySem.W.findIn K (.ref C_TextRecipe) "body" = some none)
    (na_TextRecipe_finish : PySem.W.findIn K (.ref C_TextRecipe) "finish" = some none)
    (na_TextRecipe_letters : PySem.W.findIn K (.ref C_TextRecipe) "letters" = some none)
    (bn_abs : PySem.W.nsIn K mainGlobals "abs" = some none)
    (bn_bool : PySem.W.nsIn K mainGlobals "bool" = some none)
    (bn_int : PySem.W.nsIn K mainGlobals "int" = some none)
    (bn_isinstance : PySem.W.nsIn K mainGlobals "isinstance" = some none)
    (bn_len : PySem.W.nsIn K mainGlobals "len" = some none)
    (bn_list : PySem.W.nsIn K mainGlobals "list" = some none)
    (bn_min : PySem.W.nsIn K mainGlobals "min" = some none)
    (bn_range : PySem.W.nsIn K mainGlobals "range" = some none)
    (bn_str : PySem.W.nsIn K mainGlobals "str" = some none)
    (bn_tuple : PySem.W.nsIn K mainGlobals "tuple" = some none)
    (bn_zip : PySem.W.nsIn K mainGlobals "zip" = some none)
    (g_BODY_ORDERS : PySem.W.nsIn K mainGlobals "BODY_ORDERS" = some (some (.ref A_BODY_ORDERS)))
    (L_BODY_ORDERS : K.lookup A_BODY_ORDERS = some ⟨.type "dict", none, .dict #[⟨PyData.keyHash w.params "sign", .str "sign" k_BODY_ORDERS_0, (.str "lk" t_BODY_ORDERS_0)⟩, ⟨PyData.keyHash w.params "echo", .str "echo" k_BODY_ORDERS_1, (.str "" t_BODY_ORDERS_1)⟩, ⟨PyData.keyHash w.params "keep", .str "keep" k_BODY_ORDERS_2, (.str "" t_BODY_ORDERS_2)⟩, ⟨PyData.keyHash w.params "kept", .str "kept" k_BODY_ORDERS_3, (.str "lk" t_BODY_ORDERS_3)⟩, ⟨PyData.keyHash w.params "pay", .str "pay" k_BODY_ORDERS_4, (.str "" t_BODY_ORDERS_4)⟩, ⟨PyData.keyHash w.params "write", .str "write" k_BODY_ORDERS_5, (.str "w" t_BODY_ORDERS_5)⟩, ⟨PyData.keyHash w.params "raise", .str "raise" k_BODY_ORDERS_6, (.str "f" t_BODY_ORDERS_6)⟩, ⟨PyData.keyHash w.params "lower", .str "lower" k_BODY_ORDERS_7, (.str "f" t_BODY_ORDERS_7)⟩, ⟨PyData.keyHash w.params "up", .str "up" k_BODY_ORDERS_8, (.str "fk" t_BODY_ORDERS_8)⟩, ⟨PyData.keyHash w.params "down", .str "down" k_BODY_ORDERS_9, (.str "fk" t_BODY_ORDERS_9)⟩, ⟨PyData.keyHash w.params "skip", .str "skip" k_BODY_ORDERS_10, (.str "k" t_BODY_ORDERS_10)⟩, ⟨PyData.keyHash w.params "next", .str "next" k_BODY_ORDERS_11, (.str "" t_BODY_ORDERS_11)⟩, ⟨PyData.keyHash w.params "lose", .str "lose" k_BODY_ORDERS_12, (.str "" t_BODY_ORDERS_12)⟩] n_BODY_ORDERS, #[]⟩)
    (lo_BODY_ORDERS : (A_BODY_ORDERS == sysModules) = false)
    (g_BOUNDS : PySem.W.nsIn K mainGlobals "BOUNDS" = some (some (.ref A_BOUNDS)))
    (L_BOUNDS : K.lookup A_BOUNDS = some ⟨.type "dict", none, .dict #[⟨PyData.keyHash w.params "r", .str "r" k_BOUNDS_0, (.int 8 t_BOUNDS_0)⟩, ⟨PyData.keyHash w.params "f", .str "f" k_BOUNDS_1, (.int 4 t_BOUNDS_1)⟩] n_BOUNDS, #[]⟩)
    (lo_BOUNDS : (A_BOUNDS == sysModules) = false)
    (g_FINISH_ORDERS : PySem.W.nsIn K mainGlobals "FINISH_ORDERS" = some (some (.ref A_FINISH_ORDERS)))
    (L_FINISH_ORDERS : K.lookup A_FINISH_ORDERS = some ⟨.type "dict", none, .dict #[⟨PyData.keyHash w.params "kept", .str "kept" k_FINISH_ORDERS_0, (.str "lk" t_FINISH_ORDERS_0)⟩, ⟨PyData.keyHash w.params "pay", .str "pay" k_FINISH_ORDERS_1, (.str "" t_FINISH_ORDERS_1)⟩, ⟨PyData.keyHash w.params "write", .str "write" k_FINISH_ORDERS_2, (.str "w" t_FINISH_ORDERS_2)⟩, ⟨PyData.keyHash w.params "raise", .str "raise" k_FINISH_ORDERS_3, (.str "f" t_FINISH_ORDERS_3)⟩, ⟨PyData.keyHash w.params "lower", .str "lower" k_FINISH_ORDERS_4, (.str "f" t_FINISH_ORDERS_4)⟩, ⟨PyData.keyHash w.params "up", .str "up" k_FINISH_ORDERS_5, (.str "fk" t_FINISH_ORDERS_5)⟩, ⟨PyData.keyHash w.params "down", .str "down" k_FINISH_ORDERS_6, (.str "fk" t_FINISH_ORDERS_6)⟩, ⟨PyData.keyHash w.params "skip", .str "skip" k_FINISH_ORDERS_7, (.str "k" t_FINISH_ORDERS_7)⟩, ⟨PyData.keyHash w.params "next", .str "next" k_FINISH_ORDERS_8, (.str "" t_FINISH_ORDERS_8)⟩, ⟨PyData.keyHash w.params "lose", .str "lose" k_FINISH_ORDERS_9, (.str "" t_FINISH_ORDERS_9)⟩] n_FINISH_ORDERS, #[]⟩)
    (lo_FINISH_ORDERS : (A_FINISH_ORDERS == sysModules) = false)
    (g_FLAGS : PySem.W.nsIn K mainGlobals "FLAGS" = some (some (.int 4 t_FLAGS)))
    (g_LETTERS : PySem.W.nsIn K mainGlobals "LETTERS" = some (some (.str "abcdefghijklmnopqrstuvwxyz" t_LETTERS)))
    (g_MOST_DIVISOR : PySem.W.nsIn K mainGlobals "MOST_DIVISOR" = some (some (.int 6 t_MOST_DIVISOR)))
    (g_MOST_ORDERS : PySem.W.nsIn K mainGlobals "MOST_ORDERS" = some (some (.int 400 t_MOST_ORDERS)))
    (g_NUMBER_ORDERS : PySem.W.nsIn K mainGlobals "NUMBER_ORDERS" = some (some (.ref A_NUMBER_ORDERS)))
    (L_NUMBER_ORDERS : K.lookup A_NUMBER_ORDERS = some ⟨.type "dict", none, .dict #[⟨PyData.keyHash w.params "put", .str "put" k_NUMBER_ORDERS_0, (.str "rn" t_NUMBER_ORDERS_0)⟩, ⟨PyData.keyHash w.params "copy", .str "copy" k_NUMBER_ORDERS_1, (.str "rr" t_NUMBER_ORDERS_1)⟩, ⟨PyData.keyHash w.params "add", .str "add" k_NUMBER_ORDERS_2, (.str "rrr" t_NUMBER_ORDERS_2)⟩, ⟨PyData.keyHash w.params "times", .str "times" k_NUMBER_ORDERS_3, (.str "rrn" t_NUMBER_ORDERS_3)⟩, ⟨PyData.keyHash w.params "over", .str "over" k_NUMBER_ORDERS_4, (.str "rd" t_NUMBER_ORDERS_4)⟩, ⟨PyData.keyHash w.params "rest", .str "rest" k_NUMBER_ORDERS_5, (.str "rd" t_NUMBER_ORDERS_5)⟩, ⟨PyData.keyHash w.params "less", .str "less" k_NUMBER_ORDERS_6, (.str "rrk" t_NUMBER_ORDERS_6)⟩, ⟨PyData.keyHash w.params "same", .str "same" k_NUMBER_ORDERS_7, (.str "rrk" t_NUMBER_ORDERS_7)⟩, ⟨PyData.keyHash w.params "skip", .str "skip" k_NUMBER_ORDERS_8, (.str "k" t_NUMBER_ORDERS_8)⟩, ⟨PyData.keyHash w.params "answer", .str "answer" k_NUMBER_ORDERS_9, (.str "r" t_NUMBER_ORDERS_9)⟩, ⟨PyData.keyHash w.params "lose", .str "lose" k_NUMBER_ORDERS_10, (.str "" t_NUMBER_ORDERS_10)⟩] n_NUMBER_ORDERS, #[]⟩)
    (lo_NUMBER_ORDERS : (A_NUMBER_ORDERS == sysModules) = false) :
    ∃ (fd : FuncData) (cl : Cl), (∀ (s : Shared) (v : Value), BindsTo s fd ⟨[v], []⟩ [("script", v)]) ∧ ∀ base : Heap, K.In base → base.Ns mainGlobals mg → FnOk l.prog w K mg base (L2.CX l.prog w) 10 fa fd ["script"] (spD K w cl 1 f_law) := by
  have e := hfa.symm.trans (PySem.W.mg_of X G n_law)
  cases e
  have F_law_deck := fun_mk (st := s_law_deck) l_law_deck c_law_deck k_law_deck
  have b_law_deck := F_law_deck.binds (ps := ["script", "cells", "each"]) fun _ _ _ _ _ _ us hl => match us, hl with | [_, _, _], _ => rfl
  have F_law_take := fun_mk (st := s_law_take) l_law_take c_law_take k_law_take
  have b_law_take := F_law_take.binds (ps := ["deck", "many"]) fun _ _ _ _ _ _ us hl => match us, hl with | [_, _], _ => rfl
  have F_law_text_order := fun_mk (st := s_law_text_order) l_law_text_order c_law_text_order k_law_text_order
  have b_law_text_order := F_law_text_order.binds (ps := ["deck", "letters", "behind", "is_body"]) fun _ _ _ _ _ _ us hl => match us, hl with | [_, _, _, _], _ => rfl
  have F_law_text_recipe := fun_mk (st := s_law_text_recipe) l_law_text_recipe c_law_text_recipe k_law_text_recipe
  have b_law_text_recipe := F_law_text_recipe.binds (ps := ["deck"]) fun _ _ _ _ _ _ us hl => match us, hl with | [_], _ => rfl
  have F_check_letters := fun_mk (st := s_check_letters) l_check_letters c_check_letters k_check_letters
  have b_check_letters := F_check_letters.binds (ps := ["letters"]) fun _ _ _ _ _ _ us hl => match us, hl with | [_], _ => rfl
  have F_shape_of := fun_mk (st := s_shape_of) l_shape_of c_shape_of k_shape_of
  have b_shape_of := F_shape_of.binds (ps := ["part", "word"]) fun _ _ _ _ _ _ us hl => match us, hl with | [_, _], _ => rfl
  have F_fits := fun_mk (st := s_fits) l_fits c_fits k_fits
  have b_fits := F_fits.binds (ps := ["letter", "operand", "behind", "letters"]) fun _ _ _ _ _ _ us hl => match us, hl with | [_, _, _, _], _ => rfl
  have F_allowed := fun_mk (st := s_allowed) l_allowed c_allowed k_allowed
  have b_allowed := F_allowed.binds (ps := ["order", "part", "behind", "letters"]) fun _ _ _ _ _ _ us hl => match us, hl with | [_, _, _, _], _ => rfl
  have F_check_orders := fun_mk (st := s_check_orders) l_check_orders c_check_orders k_check_orders
  have b_check_orders := F_check_orders.binds (ps := ["part", "orders", "letters"]) fun _ _ _ _ _ _ us hl => match us, hl with | [_, _, _], _ => rfl
  have F_TextRecipe_init := fun_mk (st := s_TextRecipe_init) l_TextRecipe_init c_TextRecipe_init k_TextRecipe_init
  have b_TextRecipe_init := F_TextRecipe_init.binds (ps := ["self", "letters", "body", "finish"]) fun _ _ _ _ _ _ us hl => match us, hl with | [_, _, _, _], _ => rfl
  have F_law_texts := fun_mk (st := s_law_texts) l_law_texts c_law_texts k_law_texts
  have b_law_texts := F_law_texts.binds (ps := ["deck", "letters"]) fun _ _ _ _ _ _ us hl => match us, hl with | [_, _], _ => rfl
  have F_law_plain := fun_mk (st := s_law_plain) l_law_plain c_law_plain k_law_plain
  have b_law_plain := F_law_plain.binds (ps := ["value"]) fun _ _ _ _ _ _ us hl => match us, hl with | [_], _ => rfl
  have F_Speller_init := fun_mk (st := s_Speller_init) l_Speller_init c_Speller_init k_Speller_init
  have b_Speller_init := F_Speller_init.binds (ps := ["self", "flags", "kept"]) fun _ _ _ _ _ _ us hl => match us, hl with | [_, _, _], _ => rfl
  have F_Speller_do := fun_mk (st := s_Speller_do) l_Speller_do c_Speller_do k_Speller_do
  have b_Speller_do := F_Speller_do.binds (ps := ["self", "order", "sign"]) fun _ _ _ _ _ _ us hl => match us, hl with | [_, _, _], _ => rfl
  have F_Speller_skipped := fun_mk (st := s_Speller_skipped) l_Speller_skipped c_Speller_skipped k_Speller_skipped
  have b_Speller_skipped := F_Speller_skipped.binds (ps := ["self", "order", "sign"]) fun _ _ _ _ _ _ us hl => match us, hl with | [_, _, _], _ => rfl
  have F_Speller_execute := fun_mk (st := s_Speller_execute) l_Speller_execute c_Speller_execute k_Speller_execute
  have b_Speller_execute := F_Speller_execute.binds (ps := ["self", "orders", "sign"]) fun _ _ _ _ _ _ us hl => match us, hl with | [_, _, _], _ => rfl
  have F_text_image := fun_mk (st := s_text_image) l_text_image c_text_image k_text_image
  have b_text_image := F_text_image.binds (ps := ["recipe", "text"]) fun _ _ _ _ _ _ us hl => match us, hl with | [_, _], _ => rfl
  have F_law_part := fun_mk (st := s_law_part) l_law_part c_law_part k_law_part
  have b_law_part := F_law_part.binds (ps := ["orders", "world", "sign"]) fun _ _ _ _ _ _ us hl => match us, hl with | [_, _, _], _ => rfl
  have F_law_spelt := fun_mk (st := s_law_spelt) l_law_spelt c_law_spelt k_law_spelt
  have b_law_spelt := F_law_spelt.binds (ps := ["recipe", "text"]) fun _ _ _ _ _ _ us hl => match us, hl with | [_, _], _ => rfl
  have F_law := fun_mk (st := s_law) l_law c_law k_law
  have b_law := F_law.binds (ps := ["script"]) fun _ _ _ _ _ _ us hl => match us, hl with | [_], _ => rfl
  let cl : Str → Option Addr := fun c => if c = "Speller" then some C_Speller else if c = "TextRecipe" then some C_TextRecipe else none
  have hcl_Speller : cl "Speller" = some C_Speller := if_pos rfl
  have hcl_TextRecipe : cl "TextRecipe" = some C_TextRecipe := (if_neg (by decide +kernel)).trans (if_pos rfl)
  have T : GOk w K mg cl ⟨a_law_deck, _, a_law_take, _, a_law_text_order, _, a_law_text_recipe, _, a_check_letters, _, a_shape_of, _, a_fits, _, a_allowed, _, a_check_orders, _, a_TextRecipe_init, _, a_law_texts, _, a_law_plain, _, a_Speller_init, _, a_Speller_do, _, a_Speller_skipped, _, a_Speller_execute, _, a_text_image, _, a_law_part, _, a_law_spelt, _, fa, _, C_Speller, C_TextRecipe⟩ := {
    F_law_deck := F_law_deck
    b_law_deck := b_law_deck
    k_law_deck := k_law_deck
    g_law_deck := PySem.W.mg_of X G n_law_deck
    F_law_take := F_law_take
    b_law_take := b_law_take
    k_law_take := k_law_take
    g_law_take := PySem.W.mg_of X G n_law_take
    F_law_text_order := F_law_text_order
    b_law_text_order := b_law_text_order
    k_law_text_order := k_law_text_order
    g_law_text_order := PySem.W.mg_of X G n_law_text_order
    F_law_text_recipe := F_law_text_recipe
    b_law_text_recipe := b_law_text_recipe
    k_law_text_recipe := k_law_text_recipe
    g_law_text_recipe := PySem.W.mg_of X G n_law_text_recipe
    F_check_letters := F_check_letters
    b_check_letters := b_check_letters
    k_check_letters := k_check_letters
    g_check_letters := PySem.W.mg_of X G n_check_letters
    F_shape_of := F_shape_of
    b_shape_of := b_shape_of
    k_shape_of := k_shape_of
    g_shape_of := PySem.W.mg_of X G n_shape_of
    F_fits := F_fits
    b_fits := b_fits
    k_fits := k_fits
    g_fits := PySem.W.mg_of X G n_fits
    F_allowed := F_allowed
    b_allowed := b_allowed
    k_allowed := k_allowed
    g_allowed := PySem.W.mg_of X G n_allowed
    F_check_orders := F_check_orders
    b_check_orders := b_check_orders
    k_check_orders := k_check_orders
    g_check_orders := PySem.W.mg_of X G n_check_orders
    F_TextRecipe_init := F_TextRecipe_init
    b_TextRecipe_init := b_TextRecipe_init
    k_TextRecipe_init := k_TextRecipe_init
    F_law_texts := F_law_texts
    b_law_texts := b_law_texts
    k_law_texts := k_law_texts
    g_law_texts := PySem.W.mg_of X G n_law_texts
    F_law_plain := F_law_plain
    b_law_plain := b_law_plain
    k_law_plain := k_law_plain
    g_law_plain := PySem.W.mg_of X G n_law_plain
    F_Speller_init := F_Speller_init
    b_Speller_init := b_Speller_init
    k_Speller_init := k_Speller_init
    F_Speller_do := F_Speller_do
    b_Speller_do := b_Speller_do
    k_Speller_do := k_Speller_do
    me_Speller_do := ⟨at_Speller_do, if_Speller_do, k_Speller_do⟩
    F_Speller_skipped := F_Speller_skipped
    b_Speller_skipped := b_Speller_skipped
    k_Speller_skipped := k_Speller_skipped
    me_Speller_skipped := ⟨at_Speller_skipped, if_Speller_skipped, k_Speller_skipped⟩
    F_Speller_execute := F_Speller_execute
    b_Speller_execute := b_Speller_execute
    k_Speller_execute := k_Speller_execute
    me_Speller_execute := ⟨at_Speller_execute, if_Speller_execute, k_Speller_execute⟩
    F_text_image := F_text_image
    b_text_image := b_text_image
    k_text_image := k_text_image
    g_text_image := PySem.W.mg_of X G n_text_image
    F_law_part := F_law_part
    b_law_part := b_law_part
    k_law_part := k_law_part
    g_law_part := PySem.W.mg_of X G n_law_part
    F_law_spelt := F_law_spelt
    b_law_spelt := b_law_spelt
    k_law_spelt := k_law_spelt
    g_law_spelt := PySem.W.mg_of X G n_law_spelt
    F_law := F_law
    b_law := b_law
    k_law := k_law
    g_law := PySem.W.mg_of X G n_law
    gc_Speller := PySem.W.mg_of X G nc_Speller
    cl_Speller := hcl_Speller
    cls_Speller := ⟨pg_Speller, hd_Speller, po_Speller, sa_Speller⟩
    mk_Speller := ⟨mk_Speller, at_Speller_init, if_Speller_init, kc_Speller⟩
    gc_TextRecipe := PySem.W.mg_of X G nc_TextRecipe
    cl_TextRecipe := hcl_TextRecipe
    cls_TextRecipe := ⟨pg_TextRecipe, hd_TextRecipe, po_TextRecipe, sa_TextRecipe⟩
    mk_TextRecipe := ⟨mk_TextRecipe, at_TextRecipe_init, if_TextRecipe_init, kc_TextRecipe⟩
    na_Speller_flags := na_Speller_flags
    na_Speller_kept := na_Speller_kept
    na_Speller_written := na_Speller_written
    na_TextRecipe_body := na_TextRecipe_body
    na_TextRecipe_finish := na_TextRecipe_finish
    na_TextRecipe_letters := na_TextRecipe_letters
    n_abs := PySem.W.mg_none_of X G bn_abs
    n_bool := PySem.W.mg_none_of X G bn_bool
    n_int := PySem.W.mg_none_of X G bn_int
    n_isinstance := PySem.W.mg_none_of X G bn_isinstance
    n_len := PySem.W.mg_none_of X G bn_len
    n_list := PySem.W.mg_none_of X G bn_list
    n_min := PySem.W.mg_none_of X G bn_min
    n_range := PySem.W.mg_none_of X G bn_range
    n_str := PySem.W.mg_none_of X G bn_str
    n_tuple := PySem.W.mg_none_of X G bn_tuple
    n_zip := PySem.W.mg_none_of X G bn_zip
    v_BODY_ORDERS := ⟨(.ref A_BODY_ORDERS), _, PySem.W.mg_of X G g_BODY_ORDERS, rfl, fun _ ι H => .dic (kdx_of (us := [("sign", k_BODY_ORDERS_0, (.str "lk" t_BODY_ORDERS_0)), ("echo", k_BODY_ORDERS_1, (.str "" t_BODY_ORDERS_1)), ("keep", k_BODY_ORDERS_2, (.str "" t_BODY_ORDERS_2)), ("kept", k_BODY_ORDERS_3, (.str "lk" t_BODY_ORDERS_3)), ("pay", k_BODY_ORDERS_4, (.str "" t_BODY_ORDERS_4)), ("write", k_BODY_ORDERS_5, (.str "w" t_BODY_ORDERS_5)), ("raise", k_BODY_ORDERS_6, (.str "f" t_BODY_ORDERS_6)), ("lower", k_BODY_ORDERS_7, (.str "f" t_BODY_ORDERS_7)), ("up", k_BODY_ORDERS_8, (.str "fk" t_BODY_ORDERS_8)), ("down", k_BODY_ORDERS_9, (.str "fk" t_BODY_ORDERS_9)), ("skip", k_BODY_ORDERS_10, (.str "k" t_BODY_ORDERS_10)), ("next", k_BODY_ORDERS_11, (.str "" t_BODY_ORDERS_11)), ("lose", k_BODY_ORDERS_12, (.str "" t_BODY_ORDERS_12))]) (vs := [("sign", (.str "lk")), ("echo", (.str "")), ("keep", (.str "")), ("kept", (.str "lk")), ("pay", (.str "")), ("write", (.str "w")), ("raise", (.str "f")), ("lower", (.str "f")), ("up", (.str "fk")), ("down", (.str "fk")), ("skip", (.str "k")), ("next", (.str "")), ("lose", (.str ""))]) L_BODY_ORDERS lo_BODY_ORDERS (.cons ⟨rfl, ⟨_, rfl⟩⟩ (.cons ⟨rfl, ⟨_, rfl⟩⟩ (.cons ⟨rfl, ⟨_, rfl⟩⟩ (.cons ⟨rfl, ⟨_, rfl⟩⟩ (.cons ⟨rfl, ⟨_, rfl⟩⟩ (.cons ⟨rfl, ⟨_, rfl⟩⟩ (.cons ⟨rfl, ⟨_, rfl⟩⟩ (.cons ⟨rfl, ⟨_, rfl⟩⟩ (.cons ⟨rfl, ⟨_, rfl⟩⟩ (.cons ⟨rfl, ⟨_, rfl⟩⟩ (.cons ⟨rfl, ⟨_, rfl⟩⟩ (.cons ⟨rfl, ⟨_, rfl⟩⟩ (.cons ⟨rfl, ⟨_, rfl⟩⟩ .nil)))))))))))))) (.cons (.str _) (.cons (.str _) (.cons (.str _) (.cons (.str _) (.cons (.str _) (.cons (.str _) (.cons (.str _) (.cons (.str _) (.cons (.str _) (.cons (.str _) (.cons (.str _) (.cons (.str _) (.cons (.str _) .nil)))))))))))))⟩
    v_BOUNDS := ⟨(.ref A_BOUNDS), _, PySem.W.mg_of X G g_BOUNDS, rfl, fun _ ι H => .dic (kdx_of (us := [("r", k_BOUNDS_0, (.int 8 t_BOUNDS_0)), ("f", k_BOUNDS_1, (.int 4 t_BOUNDS_1))]) (vs := [("r", (.int 8)), ("f", (.int 4))]) L_BOUNDS lo_BOUNDS (.cons ⟨rfl, ⟨_, rfl⟩⟩ (.cons ⟨rfl, ⟨_, rfl⟩⟩ .nil))) (.cons (.int _) (.cons (.int _) .nil))⟩
    v_FINISH_ORDERS := ⟨(.ref A_FINISH_ORDERS), _, PySem.W.mg_of X G g_FINISH_ORDERS, rfl, fun _ ι H => .dic (kdx_of (us := [("kept", k_FINISH_ORDERS_0, (.str "lk" t_FINISH_ORDERS_0)), ("pay", k_FINISH_ORDERS_1, (.str "" t_FINISH_ORDERS_1)), ("write", k_FINISH_ORDERS_2, (.str "w" t_FINISH_ORDERS_2)), ("raise", k_FINISH_ORDERS_3, (.str "f" t_FINISH_ORDERS_3)), ("lower", k_FINISH_ORDERS_4, (.str "f" t_FINISH_ORDERS_4)), ("up", k_FINISH_ORDERS_5, (.str "fk" t_FINISH_ORDERS_5)), ("down", k_FINISH_ORDERS_6, (.str "fk" t_FINISH_ORDERS_6)), ("skip", k_FINISH_ORDERS_7, (.str "k" t_FINISH_ORDERS_7)), ("next", k_FINISH_ORDERS_8, (.str "" t_FINISH_ORDERS_8)), ("lose", k_FINISH_ORDERS_9, (.str "" t_FINISH_ORDERS_9))]) (vs := [("kept", (.str "lk")), ("pay", (.str "")), ("write", (.str "w")), ("raise", (.str "f")), ("lower", (.str "f")), ("up", (.str "fk")), ("down", (.str "fk")), ("skip", (.str "k")), ("next", (.str "")), ("lose", (.str ""))]) L_FINISH_ORDERS lo_FINISH_ORDERS (.cons ⟨rfl, ⟨_, rfl⟩⟩ (.cons ⟨rfl, ⟨_, rfl⟩⟩ (.cons ⟨rfl, ⟨_, rfl⟩⟩ (.cons ⟨rfl, ⟨_, rfl⟩⟩ (.cons ⟨rfl, ⟨_, rfl⟩⟩ (.cons ⟨rfl, ⟨_, rfl⟩⟩ (.cons ⟨rfl, ⟨_, rfl⟩⟩ (.cons ⟨rfl, ⟨_, rfl⟩⟩ (.cons ⟨rfl, ⟨_, rfl⟩⟩ (.cons ⟨rfl, ⟨_, rfl⟩⟩ .nil))))))))))) (.cons (.str _) (.cons (.str _) (.cons (.str _) (.cons (.str _) (.cons (.str _) (.cons (.str _) (.cons (.str _) (.cons (.str _) (.cons (.str _) (.cons (.str _) .nil))))))))))⟩
    v_FLAGS := ⟨(.int 4), _, PySem.W.mg_of X G g_FLAGS, ⟨_, rfl⟩, fun _ ι H => .int _⟩
    v_LETTERS := ⟨(.str "abcdefghijklmnopqrstuvwxyz"), _, PySem.W.mg_of X G g_LETTERS, ⟨_, rfl⟩, fun _ ι H => .str _⟩
    v_MOST_DIVISOR := ⟨(.int 6), _, PySem.W.mg_of X G g_MOST_DIVISOR, ⟨_, rfl⟩, fun _ ι H => .int _⟩
    v_MOST_ORDERS := ⟨(.int 400), _, PySem.W.mg_of X G g_MOST_ORDERS, ⟨_, rfl⟩, fun _ ι H => .int _⟩
    v_NUMBER_ORDERS := ⟨(.ref A_NUMBER_ORDERS), _, PySem.W.mg_of X G g_NUMBER_ORDERS, rfl, fun _ ι H => .dic (kdx_of (us := [("put", k_NUMBER_ORDERS_0, (.str "rn" t_NUMBER_ORDERS_0)), ("copy", k_NUMBER_ORDERS_1, (.str "rr" t_NUMBER_ORDERS_1)), ("add", k_NUMBER_ORDERS_2, (.str "rrr" t_NUMBER_ORDERS_2)), ("times", k_NUMBER_ORDERS_3, (.str "rrn" t_NUMBER_ORDERS_3)), ("over", k_NUMBER_ORDERS_4, (.str "rd" t_NUMBER_ORDERS_4)), ("rest", k_NUMBER_ORDERS_5, (.str "rd" t_NUMBER_ORDERS_5)), ("less", k_NUMBER_ORDERS_6, (.str "rrk" t_NUMBER_ORDERS_6)), ("same", k_NUMBER_ORDERS_7, (.str "rrk" t_NUMBER_ORDERS_7)), ("skip", k_NUMBER_ORDERS_8, (.str "k" t_NUMBER_ORDERS_8)), ("answer", k_NUMBER_ORDERS_9, (.str "r" t_NUMBER_ORDERS_9)), ("lose", k_NUMBER_ORDERS_10, (.str "" t_NUMBER_ORDERS_10))]) (vs := [("put", (.str "rn")), ("copy", (.str "rr")), ("add", (.str "rrr")), ("times", (.str "rrn")), ("over", (.str "rd")), ("rest", (.str "rd")), ("less", (.str "rrk")), ("same", (.str "rrk")), ("skip", (.str "k")), ("answer", (.str "r")), ("lose", (.str ""))]) L_NUMBER_ORDERS lo_NUMBER_ORDERS (.cons ⟨rfl, ⟨_, rfl⟩⟩ (.cons ⟨rfl, ⟨_, rfl⟩⟩ (.cons ⟨rfl, ⟨_, rfl⟩⟩ (.cons ⟨rfl, ⟨_, rfl⟩⟩ (.cons ⟨rfl, ⟨_, rfl⟩⟩ (.cons ⟨rfl, ⟨_, rfl⟩⟩ (.cons ⟨rfl, ⟨_, rfl⟩⟩ (.cons ⟨rfl, ⟨_, rfl⟩⟩ (.cons ⟨rfl, ⟨_, rfl⟩⟩ (.cons ⟨rfl, ⟨_, rfl⟩⟩ (.cons ⟨rfl, ⟨_, rfl⟩⟩ .nil)))))))))))) (.cons (.str _) (.cons (.str _) (.cons (.str _) (.cons (.str _) (.cons (.str _) (.cons (.str _) (.cons (.str _) (.cons (.str _) (.cons (.str _) (.cons (.str _) (.cons (.str _) .nil)))))))))))⟩ }
  exact ⟨_, ⟨cl, none⟩, fun s v => .of_eq rfl, fun base _ _ => ok_law T⟩
end
end K11
namespace K11
open PySem PySem.Spec PyProof.Rows L2 Pm
noncomputable section
/-! ### orders of text recipes -/
inductive TO where
  | sign (c : Char) (k : Int) | echo | keep | kept (c : Char) (k : Int) | pay | write (w : List Char) | raise (f : Int) | lower (f : Int) | up (f k : Int) | down (f k : Int) | skip (k : Int) | next | lose
def TO.word : TO → String
  | .sign _ _ => "sign"
  | .echo => "echo"
  | .keep => "keep"
  | .kept _ _ => "kept"
  | .pay => "pay"
  | .write _ => "write"
  | .raise _ => "raise"
  | .lower _ => "lower"
  | .up _ _ => "up"
  | .down _ _ => "down"
  | .skip _ => "skip"
  | .next => "next"
  | .lose => "lose"
def TO.args : TO → List D
  | .sign c k => [.str (tx [c]), .int k]
  | .kept c k => [.str (tx [c]), .int k]
  | .write w => [.str (tx w)]
  | .raise f => [.int f]
  | .lower f => [.int f]
  | .up f k => [.int f, .int k]
  | .down f k => [.int f, .int k]
  | .skip k => [.int k]
  | _ => []
def TO.d (o : TO) : D := .tup (.str (Str.ofString o.word) :: o.args)
def fg (f : Int) : Prop := 0 ≤ f ∧ f < 4
def TO.ok (l : List Char) (body : Bool) (h : Int) : TO → Prop
  | .sign c k => c ∈ l ∧ (0 ≤ k ∧ k ≤ h) ∧ body = true
  | .kept c k => c ∈ l ∧ 0 ≤ k ∧ k ≤ h
  | .write w => w.length ≤ 2
  | .raise f => fg f
  | .lower f => fg f
  | .up f k => fg f ∧ 0 ≤ k ∧ k ≤ h
  | .down f k => fg f ∧ 0 ≤ k ∧ k ≤ h
  | .skip k => 0 ≤ k ∧ k ≤ h
  | .echo => body = true
  | .keep => body = true
  | _ => True
/-- flags, what is kept, what is written -/
structure Sta where
  fl : List Bool
  kept : List Char
  wr : List Char
def Sta.flag (st : Sta) (f : Int) : Bool := st.fl.getD f.toNat false
def TO.step (g : List Char) (st : Sta) : TO → Sta
  | .echo => { st with wr := st.wr ++ g }
  | .keep => { st with kept := g }
  | .pay => { st with kept := [], wr := st.wr ++ st.kept }
  | .write w => { st with wr := st.wr ++ w }
  | .raise f => { st with fl := st.fl.set f.toNat true }
  | .lower f => { st with fl := st.fl.set f.toNat false }
  | _ => st
def TO.to (at_ : Nat) (g : List Char) (st : Sta) : TO → Nat
  | .skip k => at_ + 1 + k.toNat
  | .sign c k => if g = [c] then at_ + 1 else at_ + 1 + k.toNat
  | .kept c k => if st.kept = [c] then at_ + 1 else at_ + 1 + k.toNat
  | .up f k => if st.flag f = true then at_ + 1 else at_ + 1 + k.toNat
  | .down f k => if st.flag f = true then at_ + 1 + k.toNat else at_ + 1
  | _ => at_ + 1
def TO.on : TO → Bool
  | .next => false
  | .lose => false
  | _ => true
def run (os : List TO) (g : List Char) : Nat → Nat → Sta → Bool × Sta
  | 0, _, st => (true, st)
  | f + 1, at_, st => match os[at_]? with
    | none => (true, st)
    | some .next => (true, st)
    | some .lose => (false, st)
    | some o => run os g f (o.to at_ g st) (o.step g st)
/-- what may stand -/
structure Sk (n : Nat) (st : Sta) : Prop where
  fl : st.fl.length = 4
  kept : st.kept.length ≤ 1
  wr : st.wr.length ≤ n
theorem Sk.step {n : Nat} {st : Sta} (h : Sk n st) {g l : List Char} (hg : g.length ≤ 1) {o : TO} {b : Bool} {i : Int} (ho : o.ok l b i) : Sk (n + 2) (o.step g st) := by
  have h1 := h.kept
  have h2 := h.wr
  cases o <;> refine ⟨?_, ?_, ?_⟩ <;> simp only [TO.step, List.length_set, List.length_append, List.length_nil] <;> first
    | exact h.fl
    | omega
    | (have h3 : _ ≤ 2 := ho; omega)
theorem ofString_inj {x y : String} : (Str.ofString x = Str.ofString y) = (x = y) := propext ⟨fun h => by
  have := str_beq x y
  rw [h, beq_self_eq_true] at this
  exact beq_iff_eq.mp this.symm, congrArg _⟩
def fsS (st : Sta) : List (Str × D) := [("flags", .ref 5), ("kept", .str (tx st.kept)), ("written", .str (tx st.wr))]
/-- the store beside a speller -/
def spS (A1 A2 A3 A4 : O) (st : Sta) (r : S) : S := A1 :: A2 :: A3 :: A4 :: .ins "Speller" (fsS st) :: .lst (st.fl.map .bl) :: r
section
variable {A1 A2 A3 A4 : O} {st : Sta} {r : S} {Q : D → S → Prop} {g l : List Char} {n : Nat}
theorem lk_flags : (fsS st).lookup (Str.ofString "flags") = some (.ref 5) := by simp only [fsS, List.lookup_cons, str_beq, String.reduceBEq]
theorem lk_kept : (fsS st).lookup (Str.ofString "kept") = some (.str (tx st.kept)) := by simp only [fsS, List.lookup_cons, str_beq, String.reduceBEq]
theorem lk_wr : (fsS st).lookup (Str.ofString "written") = some (.str (tx st.wr)) := by simp only [fsS, List.lookup_cons, str_beq, String.reduceBEq]
theorem pt_kept {k : List Char} : putFD (Str.ofString "kept") (.str (tx k)) (fsS st) = fsS { st with kept := k } := by simp only [fsS, putFD, ofString_inj, String.reduceEq, if_false, if_true]
theorem pt_wr {k : List Char} : putFD (Str.ofString "written") (.str (tx k)) (fsS st) = fsS { st with wr := k } := by simp only [fsS, putFD, ofString_inj, String.reduceEq, if_false, if_true]
theorem sp_at : (spS A1 A2 A3 A4 st r)[4]? = some (.ins "Speller" (fsS st)) := rfl
theorem sp_fl : (spS A1 A2 A3 A4 st r)[5]? = some (.lst (st.fl.map .bl)) := rfl
theorem sp_set {k : Sta} (h : k.fl = st.fl) : (spS A1 A2 A3 A4 st r).set 4 (.ins "Speller" (fsS k)) = spS A1 A2 A3 A4 k r := by simp [spS, h]
theorem sp_setf {fl : List Bool} : (spS A1 A2 A3 A4 st r).set 5 (.lst (fl.map .bl)) = spS A1 A2 A3 A4 { st with fl := fl } r := by simp [spS, fsS]
/-- a field of the speller -/
theorem fld_flags {ρ : Rho} : wp (mFld "flags" ["Speller"] (mVar 0) (some (.ref 4) :: ρ) (spS A1 A2 A3 A4 st r)) Q = Q (.ref 5) (spS A1 A2 A3 A4 st r) := by
  rw [wp_fld, wp_var]
  simp only [List.getElem?_cons_zero, insOf, sp_at, lk_flags, List.mem_singleton, true_and]
theorem fld_kept {ρ : Rho} : wp (mFld "kept" ["Speller"] (mVar 0) (some (.ref 4) :: ρ) (spS A1 A2 A3 A4 st r)) Q = Q (.str (tx st.kept)) (spS A1 A2 A3 A4 st r) := by
  rw [wp_fld, wp_var]
  simp only [List.getElem?_cons_zero, insOf, sp_at, lk_kept, List.mem_singleton, true_and]
theorem flag_ix (h : Sk n st) {f : Int} (hf : fg f) : wp (dIx (.ref 5) (.int f) (spS A1 A2 A3 A4 st r)) Q = Q (.bl (st.flag f)) (spS A1 A2 A3 A4 st r) := by
  have hl : f.toNat < st.fl.length := by rw [h.fl]; have := hf.1; have := hf.2; omega
  rw [w_ixR sp_fl, atI_nat (n := f.toNat) (by have := hf.1; omega), List.getElem?_map, List.getElem?_eq_getElem hl]
  have e : st.flag f = st.fl[f.toNat] := by
    unfold Sta.flag
    rw [List.getD_eq_getElem?_getD, List.getElem?_eq_getElem hl] <;> rfl
  rw [e]
  rfl
theorem flag_st (h : Sk n st) {f : Int} {b : Bool} (hf : fg f) : dStore (.ref 5) (.int f) (.bl b) (spS A1 A2 A3 A4 st r) = some (spS A1 A2 A3 A4 { st with fl := st.fl.set f.toNat b } r) := by
  rw [w_store sp_fl hf.1 (by rw [List.length_map, h.fl]; exact hf.2), ← List.map_set, sp_setf]
theorem insS : insOf (spS A1 A2 A3 A4 st r) (.ref 4) = some (Str.ofString "Speller", fsS st) := rfl
theorem do_wp (h : Sk n st) (hn : n ≤ 1000000) (hg : g.length ≤ 1) {o : TO} {b : Bool} {i : Int} (ho : o.ok l b i) (hon : o.on = true) (k : Q .non (spS A1 A2 A3 A4 (o.step g st) r)) : wp (f_Speller_do [.ref 4, o.d, .str (tx g)] (spS A1 A2 A3 A4 st r)) Q := by
  refine (wp_fn (n := 3) (tot := 4) (m := m_Speller_do) rfl).mpr ?_
  show wS (m_Speller_do [some (.ref 4), some o.d, some (.str (tx g)), none] _) _
  have h1 := h.kept
  have h2 := h.wr
  have aug : ∀ {mv : ME} {ρ : Rho} {Q : C → S → Prop} {w : List Char}, (∀ Q', wp (mv (some (.ref 4) :: ρ) (spS A1 A2 A3 A4 st r)) Q' = Q' (.str (tx w)) (spS A1 A2 A3 A4 st r)) → st.wr.length + w.length ≤ sizeLine → Q (.nx (some (.ref 4) :: ρ)) (spS A1 A2 A3 A4 { st with wr := st.wr ++ w } r) →
      wS (sFldAugD "written" ["Speller"] dIAdd (mVar 0) mv (some (.ref 4) :: ρ) (spS A1 A2 A3 A4 st r)) Q := by
    intro mv ρ Q w hv hz hq
    rw [wS_fldaug, wp_var]
    simp only [List.getElem?_cons_zero, sp_at, lk_wr, hv, x_iadd, List.mem_singleton, true_and, pt_wr]
    refine ⟨hz, by show 3 < 1000; decide, ?_⟩
    rw [sp_set (st := st) (k := { st with wr := st.wr ++ w }) rfl]
    exact hq
  have hz : ∀ w : List Char, w.length ≤ 2 → st.wr.length + w.length ≤ sizeLine := fun w hw => by rw [line_eq]; omega
  unfold m_Speller_do TO.d
  cases o with
  | echo =>
    unfold TO.word; simp only [wp_ok, wp_bad, wp_bind, wS_ok, wS_bad, wS_cons, wS_nil, wS_pass, wS_break, wS_cont, wS_never, wS_set, wS_expr, wS_ret, wS_retN, wS_if, wS_asg, wS_aug, wS_for, wp_lc, wp_m1, wp_m2, wp_mN, wp_aNil, wp_aCons, wp_mC, wp_var, wp_if, wp_and, wp_or, wp_not, wp_chain, wp_mt, wp_get, wp_isi, wp_fld, wp_sl, wp_oNone, wp_oSome, wp_tBool, wp_tTru, wp_tNot, wp_tAnd, wp_tOr, wp_tAll, wp_gSlot, wp_gsNil, wp_gsCons, wp_gTup, wp_gSub, wp_iAny, wp_iSeq, wp_iTup, wp_iStr, wp_iRange1, wp_iRange2, wp_iZip, wS_fld, wp_make, seqQ, rtQ, turnQ, List.getElem?_cons_zero, List.getElem?_cons_succ, List.set_cons_zero, List.set_cons_succ, wipeD, if_true, if_false, Bool.false_eq_true, Bool.true_eq_false, reduceIte, w_add, w_iadd, w_iaddS, w_addS, w_addL, w_addT, w_sub, w_mul, w_mod, w_fdiv, w_pow, w_neg, w_lt, w_le, w_gt, w_ge, w_eqI, w_neI, w_eqT, w_neT, w_isN, w_isnotN, w_isB, w_isNB, w_len, w_lenT, w_int, w_intB, w_abs, w_min, w_max, w_tup, w_lst, w_new, w_list, w_listN, w_ix, w_ixT, w_ixD, w_inT1, w_notinT1, w_inT2, w_notinT2, w_inT3, w_notinT3, w_inT4, w_notinT4, w_inT5, w_notinT5, w_inT6, w_notinT6, w_inT7, w_notinT7, w_inT8, w_notinT8, w_sl1, at_0, at_1, at_2, at_3, at_4, at_5, hasTy_list, hasTy_str, isNonD, flatD, sEq_T, List.all_cons, List.all_nil, List.any_cons, List.any_nil, Bool.and_true, Bool.true_and, Bool.or_false, Bool.or_true, Bool.true_or, Bool.false_or, Bool.not_true, Bool.not_false, List.length_cons, List.length_nil, Nat.zero_add, Nat.reduceAdd, line_eq, true_and, and_true, String.reduceBEq, Int.reduceBEq, decide_true, decide_false, Int.reduceLT, Int.reduceLE, beq_self_eq_true, Nat.reduceLeDiff]
    exact aug (w := g) (fun Q' => by rw [wp_var]; rfl) (hz g (by omega)) k
  | write w =>
    unfold TO.word TO.args; simp only [wp_ok, wp_bad, wp_bind, wS_ok, wS_bad, wS_cons, wS_nil, wS_pass, wS_break, wS_cont, wS_never, wS_set, wS_expr, wS_ret, wS_retN, wS_if, wS_asg, wS_aug, wS_for, wp_lc, wp_m1, wp_m2, wp_mN, wp_aNil, wp_aCons, wp_mC, wp_var, wp_if, wp_and, wp_or, wp_not, wp_chain, wp_mt, wp_get, wp_isi, wp_fld, wp_sl, wp_oNone, wp_oSome, wp_tBool, wp_tTru, wp_tNot, wp_tAnd, wp_tOr, wp_tAll, wp_gSlot, wp_gsNil, wp_gsCons, wp_gTup, wp_gSub, wp_iAny, wp_iSeq, wp_iTup, wp_iStr, wp_iRange1, wp_iRange2, wp_iZip, wS_fld, wp_make, seqQ, rtQ, turnQ, List.getElem?_cons_zero, List.getElem?_cons_succ, List.set_cons_zero, List.set_cons_succ, wipeD, if_true, if_false, Bool.false_eq_true, Bool.true_eq_false, reduceIte, w_add, w_iadd, w_iaddS, w_addS, w_addL, w_addT, w_sub, w_mul, w_mod, w_fdiv, w_pow, w_neg, w_lt, w_le, w_gt, w_ge, w_eqI, w_neI, w_eqT, w_neT, w_isN, w_isnotN, w_isB, w_isNB, w_len, w_lenT, w_int, w_intB, w_abs, w_min, w_max, w_tup, w_lst, w_new, w_list, w_listN, w_ix, w_ixT, w_ixD, w_inT1, w_notinT1, w_inT2, w_notinT2, w_inT3, w_notinT3, w_inT4, w_notinT4, w_inT5, w_notinT5, w_inT6, w_notinT6, w_inT7, w_notinT7, w_inT8, w_notinT8, w_sl1, at_0, at_1, at_2, at_3, at_4, at_5, hasTy_list, hasTy_str, isNonD, flatD, sEq_T, List.all_cons, List.all_nil, List.any_cons, List.any_nil, Bool.and_true, Bool.true_and, Bool.or_false, Bool.or_true, Bool.true_or, Bool.false_or, Bool.not_true, Bool.not_false, List.length_cons, List.length_nil, Nat.zero_add, Nat.reduceAdd, line_eq, true_and, and_true, String.reduceBEq, Int.reduceBEq, decide_true, decide_false, Int.reduceLT, Int.reduceLE, beq_self_eq_true, Nat.reduceLeDiff]
    refine aug (w := w) (fun Q' => by simp only [wp_ok, wp_bad, wp_bind, wS_ok, wS_bad, wS_cons, wS_nil, wS_pass, wS_break, wS_cont, wS_never, wS_set, wS_expr, wS_ret, wS_retN, wS_if, wS_asg, wS_aug, wS_for, wp_lc, wp_m1, wp_m2, wp_mN, wp_aNil, wp_aCons, wp_mC, wp_var, wp_if, wp_and, wp_or, wp_not, wp_chain, wp_mt, wp_get, wp_isi, wp_fld, wp_sl, wp_oNone, wp_oSome, wp_tBool, wp_tTru, wp_tNot, wp_tAnd, wp_tOr, wp_tAll, wp_gSlot, wp_gsNil, wp_gsCons, wp_gTup, wp_gSub, wp_iAny, wp_iSeq, wp_iTup, wp_iStr, wp_iRange1, wp_iRange2, wp_iZip, wS_fld, wp_make, seqQ, rtQ, turnQ, List.getElem?_cons_zero, List.getElem?_cons_succ, List.set_cons_zero, List.set_cons_succ, wipeD, if_true, if_false, Bool.false_eq_true, Bool.true_eq_false, reduceIte, w_add, w_iadd, w_iaddS, w_addS, w_addL, w_addT, w_sub, w_mul, w_mod, w_fdiv, w_pow, w_neg, w_lt, w_le, w_gt, w_ge, w_eqI, w_neI, w_eqT, w_neT, w_isN, w_isnotN, w_isB, w_isNB, w_len, w_lenT, w_int, w_intB, w_abs, w_min, w_max, w_tup, w_lst, w_new, w_list, w_listN, w_ix, w_ixT, w_ixD, w_inT1, w_notinT1, w_inT2, w_notinT2, w_inT3, w_notinT3, w_inT4, w_notinT4, w_inT5, w_notinT5, w_inT6, w_notinT6, w_inT7, w_notinT7, w_inT8, w_notinT8, w_sl1, at_0, at_1, at_2, at_3, at_4, at_5, hasTy_list, hasTy_str, isNonD, flatD, sEq_T, List.all_cons, List.all_nil, List.any_cons, List.any_nil, Bool.and_true, Bool.true_and, Bool.or_false, Bool.or_true, Bool.true_or, Bool.false_or, Bool.not_true, Bool.not_false, List.length_cons, List.length_nil, Nat.zero_add, Nat.reduceAdd, line_eq, true_and, and_true, String.reduceBEq, Int.reduceBEq, decide_true, decide_false, Int.reduceLT, Int.reduceLE, beq_self_eq_true, Nat.reduceLeDiff]) (hz w ho) k
  | raise f =>
    unfold TO.word TO.args; simp only [wp_ok, wp_bad, wp_bind, wS_ok, wS_bad, wS_cons, wS_nil, wS_pass, wS_break, wS_cont, wS_never, wS_set, wS_expr, wS_ret, wS_retN, wS_if, wS_asg, wS_aug, wS_for, wp_lc, wp_m1, wp_m2, wp_mN, wp_aNil, wp_aCons, wp_mC, wp_var, wp_if, wp_and, wp_or, wp_not, wp_chain, wp_mt, wp_get, wp_isi, wp_fld, wp_sl, wp_oNone, wp_oSome, wp_tBool, wp_tTru, wp_tNot, wp_tAnd, wp_tOr, wp_tAll, wp_gSlot, wp_gsNil, wp_gsCons, wp_gTup, wp_gSub, wp_iAny, wp_iSeq, wp_iTup, wp_iStr, wp_iRange1, wp_iRange2, wp_iZip, wS_fld, wp_make, seqQ, rtQ, turnQ, List.getElem?_cons_zero, List.getElem?_cons_succ, List.set_cons_zero, List.set_cons_succ, wipeD, if_true, if_false, Bool.false_eq_true, Bool.true_eq_false, reduceIte, w_add, w_iadd, w_iaddS, w_addS, w_addL, w_addT, w_sub, w_mul, w_mod, w_fdiv, w_pow, w_neg, w_lt, w_le, w_gt, w_ge, w_eqI, w_neI, w_eqT, w_neT, w_isN, w_isnotN, w_isB, w_isNB, w_len, w_lenT, w_int, w_intB, w_abs, w_min, w_max, w_tup, w_lst, w_new, w_list, w_listN, w_ix, w_ixT, w_ixD, w_inT1, w_notinT1, w_inT2, w_notinT2, w_inT3, w_notinT3, w_inT4, w_notinT4, w_inT5, w_notinT5, w_inT6, w_notinT6, w_inT7, w_notinT7, w_inT8, w_notinT8, w_sl1, at_0, at_1, at_2, at_3, at_4, at_5, hasTy_list, hasTy_str, isNonD, flatD, sEq_T, List.all_cons, List.all_nil, List.any_cons, List.any_nil, Bool.and_true, Bool.true_and, Bool.or_false, Bool.or_true, Bool.true_or, Bool.false_or, Bool.not_true, Bool.not_false, List.length_cons, List.length_nil, Nat.zero_add, Nat.reduceAdd, line_eq, true_and, and_true, String.reduceBEq, Int.reduceBEq, decide_true, decide_false, Int.reduceLT, Int.reduceLE, beq_self_eq_true, Nat.reduceLeDiff]
    simp only [w_inU2, String.reduceBEq, Bool.or_false, Bool.or_true, Bool.true_or, if_true, w_eqT, insS, lk_flags, List.mem_singleton, true_and]
    rw [flag_st h ho]
    exact k
  | lower f =>
    unfold TO.word TO.args; simp only [wp_ok, wp_bad, wp_bind, wS_ok, wS_bad, wS_cons, wS_nil, wS_pass, wS_break, wS_cont, wS_never, wS_set, wS_expr, wS_ret, wS_retN, wS_if, wS_asg, wS_aug, wS_for, wp_lc, wp_m1, wp_m2, wp_mN, wp_aNil, wp_aCons, wp_mC, wp_var, wp_if, wp_and, wp_or, wp_not, wp_chain, wp_mt, wp_get, wp_isi, wp_fld, wp_sl, wp_oNone, wp_oSome, wp_tBool, wp_tTru, wp_tNot, wp_tAnd, wp_tOr, wp_tAll, wp_gSlot, wp_gsNil, wp_gsCons, wp_gTup, wp_gSub, wp_iAny, wp_iSeq, wp_iTup, wp_iStr, wp_iRange1, wp_iRange2, wp_iZip, wS_fld, wp_make, seqQ, rtQ, turnQ, List.getElem?_cons_zero, List.getElem?_cons_succ, List.set_cons_zero, List.set_cons_succ, wipeD, if_true, if_false, Bool.false_eq_true, Bool.true_eq_false, reduceIte, w_add, w_iadd, w_iaddS, w_addS, w_addL, w_addT, w_sub, w_mul, w_mod, w_fdiv, w_pow, w_neg, w_lt, w_le, w_gt, w_ge, w_eqI, w_neI, w_eqT, w_neT, w_isN, w_isnotN, w_isB, w_isNB, w_len, w_lenT, w_int, w_intB, w_abs, w_min, w_max, w_tup, w_lst, w_new, w_list, w_listN, w_ix, w_ixT, w_ixD, w_inT1, w_notinT1, w_inT2, w_notinT2, w_inT3, w_notinT3, w_inT4, w_notinT4, w_inT5, w_notinT5, w_inT6, w_notinT6, w_inT7, w_notinT7, w_inT8, w_notinT8, w_sl1, at_0, at_1, at_2, at_3, at_4, at_5, hasTy_list, hasTy_str, isNonD, flatD, sEq_T, List.all_cons, List.all_nil, List.any_cons, List.any_nil, Bool.and_true, Bool.true_and, Bool.or_false, Bool.or_true, Bool.true_or, Bool.false_or, Bool.not_true, Bool.not_false, List.length_cons, List.length_nil, Nat.zero_add, Nat.reduceAdd, line_eq, true_and, and_true, String.reduceBEq, Int.reduceBEq, decide_true, decide_false, Int.reduceLT, Int.reduceLE, beq_self_eq_true, Nat.reduceLeDiff]
    simp only [w_inU2, String.reduceBEq, Bool.or_false, Bool.or_true, Bool.true_or, if_true, w_eqT, insS, lk_flags, List.mem_singleton, true_and]
    rw [flag_st h ho]
    exact k
  | next => cases hon
  | lose => cases hon
  | keep =>
    unfold TO.word; simp only [wp_ok, wp_bad, wp_bind, wS_ok, wS_bad, wS_cons, wS_nil, wS_pass, wS_break, wS_cont, wS_never, wS_set, wS_expr, wS_ret, wS_retN, wS_if, wS_asg, wS_aug, wS_for, wp_lc, wp_m1, wp_m2, wp_mN, wp_aNil, wp_aCons, wp_mC, wp_var, wp_if, wp_and, wp_or, wp_not, wp_chain, wp_mt, wp_get, wp_isi, wp_fld, wp_sl, wp_oNone, wp_oSome, wp_tBool, wp_tTru, wp_tNot, wp_tAnd, wp_tOr, wp_tAll, wp_gSlot, wp_gsNil, wp_gsCons, wp_gTup, wp_gSub, wp_iAny, wp_iSeq, wp_iTup, wp_iStr, wp_iRange1, wp_iRange2, wp_iZip, wS_fld, wp_make, seqQ, rtQ, turnQ, List.getElem?_cons_zero, List.getElem?_cons_succ, List.set_cons_zero, List.set_cons_succ, wipeD, if_true, if_false, Bool.false_eq_true, Bool.true_eq_false, reduceIte, w_add, w_iadd, w_iaddS, w_addS, w_addL, w_addT, w_sub, w_mul, w_mod, w_fdiv, w_pow, w_neg, w_lt, w_le, w_gt, w_ge, w_eqI, w_neI, w_eqT, w_neT, w_isN, w_isnotN, w_isB, w_isNB, w_len, w_lenT, w_int, w_intB, w_abs, w_min, w_max, w_tup, w_lst, w_new, w_list, w_listN, w_ix, w_ixT, w_ixD, w_inT1, w_notinT1, w_inT2, w_notinT2, w_inT3, w_notinT3, w_inT4, w_notinT4, w_inT5, w_notinT5, w_inT6, w_notinT6, w_inT7, w_notinT7, w_inT8, w_notinT8, w_sl1, at_0, at_1, at_2, at_3, at_4, at_5, hasTy_list, hasTy_str, isNonD, flatD, sEq_T, List.all_cons, List.all_nil, List.any_cons, List.any_nil, Bool.and_true, Bool.true_and, Bool.or_false, Bool.or_true, Bool.true_or, Bool.false_or, Bool.not_true, Bool.not_false, List.length_cons, List.length_nil, Nat.zero_add, Nat.reduceAdd, line_eq, true_and, and_true, String.reduceBEq, Int.reduceBEq, decide_true, decide_false, Int.reduceLT, Int.reduceLE, beq_self_eq_true, Nat.reduceLeDiff]
    simp only [sp_at, pt_kept]
    refine ⟨⟨List.mem_singleton.mpr rfl, by show 3 < 1000; decide⟩, ?_⟩
    rw [sp_set (st := st) (k := { st with kept := g }) rfl]
    exact k
  | pay =>
    unfold TO.word; simp only [wp_ok, wp_bad, wp_bind, wS_ok, wS_bad, wS_cons, wS_nil, wS_pass, wS_break, wS_cont, wS_never, wS_set, wS_expr, wS_ret, wS_retN, wS_if, wS_asg, wS_aug, wS_for, wp_lc, wp_m1, wp_m2, wp_mN, wp_aNil, wp_aCons, wp_mC, wp_var, wp_if, wp_and, wp_or, wp_not, wp_chain, wp_mt, wp_get, wp_isi, wp_fld, wp_sl, wp_oNone, wp_oSome, wp_tBool, wp_tTru, wp_tNot, wp_tAnd, wp_tOr, wp_tAll, wp_gSlot, wp_gsNil, wp_gsCons, wp_gTup, wp_gSub, wp_iAny, wp_iSeq, wp_iTup, wp_iStr, wp_iRange1, wp_iRange2, wp_iZip, wS_fld, wp_make, seqQ, rtQ, turnQ, List.getElem?_cons_zero, List.getElem?_cons_succ, List.set_cons_zero, List.set_cons_succ, wipeD, if_true, if_false, Bool.false_eq_true, Bool.true_eq_false, reduceIte, w_add, w_iadd, w_iaddS, w_addS, w_addL, w_addT, w_sub, w_mul, w_mod, w_fdiv, w_pow, w_neg, w_lt, w_le, w_gt, w_ge, w_eqI, w_neI, w_eqT, w_neT, w_isN, w_isnotN, w_isB, w_isNB, w_len, w_lenT, w_int, w_intB, w_abs, w_min, w_max, w_tup, w_lst, w_new, w_list, w_listN, w_ix, w_ixT, w_ixD, w_inT1, w_notinT1, w_inT2, w_notinT2, w_inT3, w_notinT3, w_inT4, w_notinT4, w_inT5, w_notinT5, w_inT6, w_notinT6, w_inT7, w_notinT7, w_inT8, w_notinT8, w_sl1, at_0, at_1, at_2, at_3, at_4, at_5, hasTy_list, hasTy_str, isNonD, flatD, sEq_T, List.all_cons, List.all_nil, List.any_cons, List.any_nil, Bool.and_true, Bool.true_and, Bool.or_false, Bool.or_true, Bool.true_or, Bool.false_or, Bool.not_true, Bool.not_false, List.length_cons, List.length_nil, Nat.zero_add, Nat.reduceAdd, line_eq, true_and, and_true, String.reduceBEq, Int.reduceBEq, decide_true, decide_false, Int.reduceLT, Int.reduceLE, beq_self_eq_true, Nat.reduceLeDiff]
    refine aug (w := st.kept) (fun Q' => fld_kept) (hz _ (by omega)) ?_
    simp only [seqQ]
    rw [wS_fld, wp_mC, wp_var]
    simp only [List.getElem?_cons_zero, sp_at, ← tx_nil, pt_kept]
    refine ⟨⟨List.mem_singleton.mpr rfl, by show 3 < 1000; decide⟩, ?_⟩
    rw [sp_set (st := { st with wr := st.wr ++ st.kept }) (k := { st with kept := [], wr := st.wr ++ st.kept }) rfl]
    exact k
  | _ =>
    unfold TO.word TO.args; simp only [wp_ok, wp_bad, wp_bind, wS_ok, wS_bad, wS_cons, wS_nil, wS_pass, wS_break, wS_cont, wS_never, wS_set, wS_expr, wS_ret, wS_retN, wS_if, wS_asg, wS_aug, wS_for, wp_lc, wp_m1, wp_m2, wp_mN, wp_aNil, wp_aCons, wp_mC, wp_var, wp_if, wp_and, wp_or, wp_not, wp_chain, wp_mt, wp_get, wp_isi, wp_fld, wp_sl, wp_oNone, wp_oSome, wp_tBool, wp_tTru, wp_tNot, wp_tAnd, wp_tOr, wp_tAll, wp_gSlot, wp_gsNil, wp_gsCons, wp_gTup, wp_gSub, wp_iAny, wp_iSeq, wp_iTup, wp_iStr, wp_iRange1, wp_iRange2, wp_iZip, wS_fld, wp_make, seqQ, rtQ, turnQ, List.getElem?_cons_zero, List.getElem?_cons_succ, List.set_cons_zero, List.set_cons_succ, wipeD, if_true, if_false, Bool.false_eq_true, Bool.true_eq_false, reduceIte, w_add, w_iadd, w_iaddS, w_addS, w_addL, w_addT, w_sub, w_mul, w_mod, w_fdiv, w_pow, w_neg, w_lt, w_le, w_gt, w_ge, w_eqI, w_neI, w_eqT, w_neT, w_isN, w_isnotN, w_isB, w_isNB, w_len, w_lenT, w_int, w_intB, w_abs, w_min, w_max, w_tup, w_lst, w_new, w_list, w_listN, w_ix, w_ixT, w_ixD, w_inT1, w_notinT1, w_inT2, w_notinT2, w_inT3, w_notinT3, w_inT4, w_notinT4, w_inT5, w_notinT5, w_inT6, w_notinT6, w_inT7, w_notinT7, w_inT8, w_notinT8, w_sl1, at_0, at_1, at_2, at_3, at_4, at_5, hasTy_list, hasTy_str, isNonD, flatD, sEq_T, List.all_cons, List.all_nil, List.any_cons, List.any_nil, Bool.and_true, Bool.true_and, Bool.or_false, Bool.or_true, Bool.true_or, Bool.false_or, Bool.not_true, Bool.not_false, List.length_cons, List.length_nil, Nat.zero_add, Nat.reduceAdd, line_eq, true_and, and_true, String.reduceBEq, Int.reduceBEq, decide_true, decide_false, Int.reduceLT, Int.reduceLE, beq_self_eq_true, Nat.reduceLeDiff]
    simp only [w_inU2, String.reduceBEq, Bool.or_false, Bool.or_true, Bool.true_or, Bool.false_eq_true, if_false]
    exact k
theorem to_gt (at_ : Nat) (g : List Char) (st : Sta) (o : TO) : at_ < o.to at_ g st := by
  cases o <;> simp only [TO.to] <;> (try split) <;> omega
theorem skip_wp {at_ : Nat} (h : Sk n st) (hg : g.length ≤ 1) {o : TO} {b : Bool} {i : Int} (ho : o.ok l b i) (hon : o.on = true) (k : Q (.int ((o.to at_ g st : Nat) - (at_ : Nat) - 1)) (spS A1 A2 A3 A4 st r)) : wp (f_Speller_skipped [.ref 4, o.d, .str (tx g)] (spS A1 A2 A3 A4 st r)) Q := by
  refine (wp_fn (n := 3) (tot := 4) (m := m_Speller_skipped) rfl).mpr ?_
  show wS (m_Speller_skipped [some (.ref 4), some o.d, some (.str (tx g)), none] _) _
  have e0 : ((at_ + 1 : Nat) : Int) - (at_ : Nat) - 1 = 0 := by omega
  have ek : ∀ c : Int, 0 ≤ c → ((at_ + 1 + c.toNat : Nat) : Int) - (at_ : Nat) - 1 = c := fun c hc => by omega
  unfold m_Speller_skipped TO.d
  cases o with
  | skip c =>
    unfold TO.word TO.args; simp only [wp_ok, wp_bad, wp_bind, wS_ok, wS_bad, wS_cons, wS_nil, wS_pass, wS_break, wS_cont, wS_never, wS_set, wS_expr, wS_ret, wS_retN, wS_if, wS_asg, wS_aug, wS_for, wp_lc, wp_m1, wp_m2, wp_mN, wp_aNil, wp_aCons, wp_mC, wp_var, wp_if, wp_and, wp_or, wp_not, wp_chain, wp_mt, wp_get, wp_isi, wp_fld, wp_sl, wp_oNone, wp_oSome, wp_tBool, wp_tTru, wp_tNot, wp_tAnd, wp_tOr, wp_tAll, wp_gSlot, wp_gsNil, wp_gsCons, wp_gTup, wp_gSub, wp_iAny, wp_iSeq, wp_iTup, wp_iStr, wp_iRange1, wp_iRange2, wp_iZip, wS_fld, wp_make, seqQ, rtQ, turnQ, List.getElem?_cons_zero, List.getElem?_cons_succ, List.set_cons_zero, List.set_cons_succ, wipeD, if_true, if_false, Bool.false_eq_true, Bool.true_eq_false, reduceIte, w_add, w_iadd, w_iaddS, w_addS, w_addL, w_addT, w_sub, w_mul, w_mod, w_fdiv, w_pow, w_neg, w_lt, w_le, w_gt, w_ge, w_eqI, w_neI, w_eqT, w_neT, w_isN, w_isnotN, w_isB, w_isNB, w_len, w_lenT, w_int, w_intB, w_abs, w_min, w_max, w_tup, w_lst, w_new, w_list, w_listN, w_ix, w_ixT, w_ixD, w_inT1, w_notinT1, w_inT2, w_notinT2, w_inT3, w_notinT3, w_inT4, w_notinT4, w_inT5, w_notinT5, w_inT6, w_notinT6, w_inT7, w_notinT7, w_inT8, w_notinT8, w_sl1, at_0, at_1, at_2, at_3, at_4, at_5, hasTy_list, hasTy_str, isNonD, flatD, sEq_T, List.all_cons, List.all_nil, List.any_cons, List.any_nil, Bool.and_true, Bool.true_and, Bool.or_false, Bool.or_true, Bool.true_or, Bool.false_or, Bool.not_true, Bool.not_false, List.length_cons, List.length_nil, Nat.zero_add, Nat.reduceAdd, line_eq, true_and, and_true, String.reduceBEq, Int.reduceBEq, decide_true, decide_false, Int.reduceLT, Int.reduceLE, beq_self_eq_true, Nat.reduceLeDiff]
    simp only [TO.to] at k
    rw [ek c ho.1] at k
    exact k
  | sign c i =>
    unfold TO.word TO.args; simp only [wp_ok, wp_bad, wp_bind, wS_ok, wS_bad, wS_cons, wS_nil, wS_pass, wS_break, wS_cont, wS_never, wS_set, wS_expr, wS_ret, wS_retN, wS_if, wS_asg, wS_aug, wS_for, wp_lc, wp_m1, wp_m2, wp_mN, wp_aNil, wp_aCons, wp_mC, wp_var, wp_if, wp_and, wp_or, wp_not, wp_chain, wp_mt, wp_get, wp_isi, wp_fld, wp_sl, wp_oNone, wp_oSome, wp_tBool, wp_tTru, wp_tNot, wp_tAnd, wp_tOr, wp_tAll, wp_gSlot, wp_gsNil, wp_gsCons, wp_gTup, wp_gSub, wp_iAny, wp_iSeq, wp_iTup, wp_iStr, wp_iRange1, wp_iRange2, wp_iZip, wS_fld, wp_make, seqQ, rtQ, turnQ, List.getElem?_cons_zero, List.getElem?_cons_succ, List.set_cons_zero, List.set_cons_succ, wipeD, if_true, if_false, Bool.false_eq_true, Bool.true_eq_false, reduceIte, w_add, w_iadd, w_iaddS, w_addS, w_addL, w_addT, w_sub, w_mul, w_mod, w_fdiv, w_pow, w_neg, w_lt, w_le, w_gt, w_ge, w_eqI, w_neI, w_eqT, w_neT, w_isN, w_isnotN, w_isB, w_isNB, w_len, w_lenT, w_int, w_intB, w_abs, w_min, w_max, w_tup, w_lst, w_new, w_list, w_listN, w_ix, w_ixT, w_ixD, w_inT1, w_notinT1, w_inT2, w_notinT2, w_inT3, w_notinT3, w_inT4, w_notinT4, w_inT5, w_notinT5, w_inT6, w_notinT6, w_inT7, w_notinT7, w_inT8, w_notinT8, w_sl1, at_0, at_1, at_2, at_3, at_4, at_5, hasTy_list, hasTy_str, isNonD, flatD, sEq_T, List.all_cons, List.all_nil, List.any_cons, List.any_nil, Bool.and_true, Bool.true_and, Bool.or_false, Bool.or_true, Bool.true_or, Bool.false_or, Bool.not_true, Bool.not_false, List.length_cons, List.length_nil, Nat.zero_add, Nat.reduceAdd, line_eq, true_and, and_true, String.reduceBEq, Int.reduceBEq, decide_true, decide_false, Int.reduceLT, Int.reduceLE, beq_self_eq_true, Nat.reduceLeDiff]
    simp only [x_ne]
    simp only [TO.to] at k
    by_cases hc : g = [c]
    · subst hc
      rw [if_pos rfl, e0] at k
      simp only [decide_true, Bool.not_true, Bool.false_eq_true, if_false]
      exact k
    · rw [if_neg hc, ek i ho.2.1.1] at k
      have e1 : decide ([c] = g) = false := decide_eq_false (fun z => hc z.symm)
      simp only [e1, Bool.not_false, if_true]
      exact k
  | kept c i =>
    unfold TO.word TO.args; simp only [wp_ok, wp_bad, wp_bind, wS_ok, wS_bad, wS_cons, wS_nil, wS_pass, wS_break, wS_cont, wS_never, wS_set, wS_expr, wS_ret, wS_retN, wS_if, wS_asg, wS_aug, wS_for, wp_lc, wp_m1, wp_m2, wp_mN, wp_aNil, wp_aCons, wp_mC, wp_var, wp_if, wp_and, wp_or, wp_not, wp_chain, wp_mt, wp_get, wp_isi, wp_fld, wp_sl, wp_oNone, wp_oSome, wp_tBool, wp_tTru, wp_tNot, wp_tAnd, wp_tOr, wp_tAll, wp_gSlot, wp_gsNil, wp_gsCons, wp_gTup, wp_gSub, wp_iAny, wp_iSeq, wp_iTup, wp_iStr, wp_iRange1, wp_iRange2, wp_iZip, wS_fld, wp_make, seqQ, rtQ, turnQ, List.getElem?_cons_zero, List.getElem?_cons_succ, List.set_cons_zero, List.set_cons_succ, wipeD, if_true, if_false, Bool.false_eq_true, Bool.true_eq_false, reduceIte, w_add, w_iadd, w_iaddS, w_addS, w_addL, w_addT, w_sub, w_mul, w_mod, w_fdiv, w_pow, w_neg, w_lt, w_le, w_gt, w_ge, w_eqI, w_neI, w_eqT, w_neT, w_isN, w_isnotN, w_isB, w_isNB, w_len, w_lenT, w_int, w_intB, w_abs, w_min, w_max, w_tup, w_lst, w_new, w_list, w_listN, w_ix, w_ixT, w_ixD, w_inT1, w_notinT1, w_inT2, w_notinT2, w_inT3, w_notinT3, w_inT4, w_notinT4, w_inT5, w_notinT5, w_inT6, w_notinT6, w_inT7, w_notinT7, w_inT8, w_notinT8, w_sl1, at_0, at_1, at_2, at_3, at_4, at_5, hasTy_list, hasTy_str, isNonD, flatD, sEq_T, List.all_cons, List.all_nil, List.any_cons, List.any_nil, Bool.and_true, Bool.true_and, Bool.or_false, Bool.or_true, Bool.true_or, Bool.false_or, Bool.not_true, Bool.not_false, List.length_cons, List.length_nil, Nat.zero_add, Nat.reduceAdd, line_eq, true_and, and_true, String.reduceBEq, Int.reduceBEq, decide_true, decide_false, Int.reduceLT, Int.reduceLE, beq_self_eq_true, Nat.reduceLeDiff]
    simp only [insS, lk_kept, List.mem_singleton, true_and, x_ne]
    simp only [TO.to] at k
    by_cases hc : st.kept = [c]
    · rw [if_pos hc, e0] at k
      have e1 : decide ([c] = st.kept) = true := decide_eq_true hc.symm
      simp only [e1, Bool.not_true, Bool.false_eq_true, if_false]
      exact k
    · rw [if_neg hc, ek i ho.2.1] at k
      have e1 : decide ([c] = st.kept) = false := decide_eq_false (fun z => hc z.symm)
      simp only [e1, Bool.not_false, if_true]
      exact k
  | up f i =>
    unfold TO.word TO.args; simp only [wp_ok, wp_bad, wp_bind, wS_ok, wS_bad, wS_cons, wS_nil, wS_pass, wS_break, wS_cont, wS_never, wS_set, wS_expr, wS_ret, wS_retN, wS_if, wS_asg, wS_aug, wS_for, wp_lc, wp_m1, wp_m2, wp_mN, wp_aNil, wp_aCons, wp_mC, wp_var, wp_if, wp_and, wp_or, wp_not, wp_chain, wp_mt, wp_get, wp_isi, wp_fld, wp_sl, wp_oNone, wp_oSome, wp_tBool, wp_tTru, wp_tNot, wp_tAnd, wp_tOr, wp_tAll, wp_gSlot, wp_gsNil, wp_gsCons, wp_gTup, wp_gSub, wp_iAny, wp_iSeq, wp_iTup, wp_iStr, wp_iRange1, wp_iRange2, wp_iZip, wS_fld, wp_make, seqQ, rtQ, turnQ, List.getElem?_cons_zero, List.getElem?_cons_succ, List.set_cons_zero, List.set_cons_succ, wipeD, if_true, if_false, Bool.false_eq_true, Bool.true_eq_false, reduceIte, w_add, w_iadd, w_iaddS, w_addS, w_addL, w_addT, w_sub, w_mul, w_mod, w_fdiv, w_pow, w_neg, w_lt, w_le, w_gt, w_ge, w_eqI, w_neI, w_eqT, w_neT, w_isN, w_isnotN, w_isB, w_isNB, w_len, w_lenT, w_int, w_intB, w_abs, w_min, w_max, w_tup, w_lst, w_new, w_list, w_listN, w_ix, w_ixT, w_ixD, w_inT1, w_notinT1, w_inT2, w_notinT2, w_inT3, w_notinT3, w_inT4, w_notinT4, w_inT5, w_notinT5, w_inT6, w_notinT6, w_inT7, w_notinT7, w_inT8, w_notinT8, w_sl1, at_0, at_1, at_2, at_3, at_4, at_5, hasTy_list, hasTy_str, isNonD, flatD, sEq_T, List.all_cons, List.all_nil, List.any_cons, List.any_nil, Bool.and_true, Bool.true_and, Bool.or_false, Bool.or_true, Bool.true_or, Bool.false_or, Bool.not_true, Bool.not_false, List.length_cons, List.length_nil, Nat.zero_add, Nat.reduceAdd, line_eq, true_and, and_true, String.reduceBEq, Int.reduceBEq, decide_true, decide_false, Int.reduceLT, Int.reduceLE, beq_self_eq_true, Nat.reduceLeDiff]
    simp only [insS, lk_flags, List.mem_singleton, true_and]
    rw [flag_ix h ho.1]
    simp only [dTru]
    simp only [TO.to] at k
    cases hf : st.flag f with
    | true =>
      rw [hf, if_pos rfl, e0] at k
      exact k
    | false =>
      rw [hf, if_neg (by decide), ek i ho.2.1] at k
      exact k
  | down f i =>
    unfold TO.word TO.args; simp only [wp_ok, wp_bad, wp_bind, wS_ok, wS_bad, wS_cons, wS_nil, wS_pass, wS_break, wS_cont, wS_never, wS_set, wS_expr, wS_ret, wS_retN, wS_if, wS_asg, wS_aug, wS_for, wp_lc, wp_m1, wp_m2, wp_mN, wp_aNil, wp_aCons, wp_mC, wp_var, wp_if, wp_and, wp_or, wp_not, wp_chain, wp_mt, wp_get, wp_isi, wp_fld, wp_sl, wp_oNone, wp_oSome, wp_tBool, wp_tTru, wp_tNot, wp_tAnd, wp_tOr, wp_tAll, wp_gSlot, wp_gsNil, wp_gsCons, wp_gTup, wp_gSub, wp_iAny, wp_iSeq, wp_iTup, wp_iStr, wp_iRange1, wp_iRange2, wp_iZip, wS_fld, wp_make, seqQ, rtQ, turnQ, List.getElem?_cons_zero, List.getElem?_cons_succ, List.set_cons_zero, List.set_cons_succ, wipeD, if_true, if_false, Bool.false_eq_true, Bool.true_eq_false, reduceIte, w_add, w_iadd, w_iaddS, w_addS, w_addL, w_addT, w_sub, w_mul, w_mod, w_fdiv, w_pow, w_neg, w_lt, w_le, w_gt, w_ge, w_eqI, w_neI, w_eqT, w_neT, w_isN, w_isnotN, w_isB, w_isNB, w_len, w_lenT, w_int, w_intB, w_abs, w_min, w_max, w_tup, w_lst, w_new, w_list, w_listN, w_ix, w_ixT, w_ixD, w_inT1, w_notinT1, w_inT2, w_notinT2, w_inT3, w_notinT3, w_inT4, w_notinT4, w_inT5, w_notinT5, w_inT6, w_notinT6, w_inT7, w_notinT7, w_inT8, w_notinT8, w_sl1, at_0, at_1, at_2, at_3, at_4, at_5, hasTy_list, hasTy_str, isNonD, flatD, sEq_T, List.all_cons, List.all_nil, List.any_cons, List.any_nil, Bool.and_true, Bool.true_and, Bool.or_false, Bool.or_true, Bool.true_or, Bool.false_or, Bool.not_true, Bool.not_false, List.length_cons, List.length_nil, Nat.zero_add, Nat.reduceAdd, line_eq, true_and, and_true, String.reduceBEq, Int.reduceBEq, decide_true, decide_false, Int.reduceLT, Int.reduceLE, beq_self_eq_true, Nat.reduceLeDiff]
    simp only [insS, lk_flags, List.mem_singleton, true_and]
    rw [flag_ix h ho.1]
    simp only [dTru]
    simp only [TO.to] at k
    cases hf : st.flag f with
    | true =>
      rw [hf, if_pos rfl, ek i ho.2.1] at k
      exact k
    | false =>
      rw [hf, if_neg (by decide), e0] at k
      exact k
  | next => cases hon
  | lose => cases hon
  | _ =>
    unfold TO.word; simp only [wp_ok, wp_bad, wp_bind, wS_ok, wS_bad, wS_cons, wS_nil, wS_pass, wS_break, wS_cont, wS_never, wS_set, wS_expr, wS_ret, wS_retN, wS_if, wS_asg, wS_aug, wS_for, wp_lc, wp_m1, wp_m2, wp_mN, wp_aNil, wp_aCons, wp_mC, wp_var, wp_if, wp_and, wp_or, wp_not, wp_chain, wp_mt, wp_get, wp_isi, wp_fld, wp_sl, wp_oNone, wp_oSome, wp_tBool, wp_tTru, wp_tNot, wp_tAnd, wp_tOr, wp_tAll, wp_gSlot, wp_gsNil, wp_gsCons, wp_gTup, wp_gSub, wp_iAny, wp_iSeq, wp_iTup, wp_iStr, wp_iRange1, wp_iRange2, wp_iZip, wS_fld, wp_make, seqQ, rtQ, turnQ, List.getElem?_cons_zero, List.getElem?_cons_succ, List.set_cons_zero, List.set_cons_succ, wipeD, if_true, if_false, Bool.false_eq_true, Bool.true_eq_false, reduceIte, w_add, w_iadd, w_iaddS, w_addS, w_addL, w_addT, w_sub, w_mul, w_mod, w_fdiv, w_pow, w_neg, w_lt, w_le, w_gt, w_ge, w_eqI, w_neI, w_eqT, w_neT, w_isN, w_isnotN, w_isB, w_isNB, w_len, w_lenT, w_int, w_intB, w_abs, w_min, w_max, w_tup, w_lst, w_new, w_list, w_listN, w_ix, w_ixT, w_ixD, w_inT1, w_notinT1, w_inT2, w_notinT2, w_inT3, w_notinT3, w_inT4, w_notinT4, w_inT5, w_notinT5, w_inT6, w_notinT6, w_inT7, w_notinT7, w_inT8, w_notinT8, w_sl1, at_0, at_1, at_2, at_3, at_4, at_5, hasTy_list, hasTy_str, isNonD, flatD, sEq_T, List.all_cons, List.all_nil, List.any_cons, List.any_nil, Bool.and_true, Bool.true_and, Bool.or_false, Bool.or_true, Bool.true_or, Bool.false_or, Bool.not_true, Bool.not_false, List.length_cons, List.length_nil, Nat.zero_add, Nat.reduceAdd, line_eq, true_and, and_true, String.reduceBEq, Int.reduceBEq, decide_true, decide_false, Int.reduceLT, Int.reduceLE, beq_self_eq_true, Nat.reduceLeDiff]
    simp only [TO.to] at k
    rw [e0] at k
    exact k
theorem to_step {at_ : Nat} {o : TO} (hon : o.on = true) : o.to at_ g (o.step g st) = o.to at_ g st := by cases o <;> rfl
/-! ### the engine's execution -/
theorem run_end {os : List TO} {at_ : Nat} (h : os.length ≤ at_) : ∀ f, run os g f at_ st = (true, st)
  | 0 => rfl
  | f + 1 => by
    unfold run
    rw [List.getElem?_eq_none h]
theorem run_on {os : List TO} {at_ f : Nat} {o : TO} (h : os[at_]? = some o) (ho : o.on = true) : run os g (f + 1) at_ st = run os g f (o.to at_ g st) (o.step g st) := by
  rw [run, h]
  cases o <;> first
    | rfl
    | cases ho
theorem run_fuel {os : List TO} : ∀ (f k at_ : Nat) (st : Sta), os.length ≤ at_ + f → os.length ≤ at_ + k → run os g f at_ st = run os g k at_ st
  | 0, k, at_, st, h, _ => by rw [run_end (by omega), run_end (by omega)]
  | f + 1, 0, at_, st, _, h => by rw [run_end (by omega), run_end (by omega)]
  | f + 1, k + 1, at_, st, h1, h2 => by
    cases ho : os[at_]? with
    | none => rw [run, run, ho]
    | some o =>
      cases hon : o.on with
      | true =>
        have gt := to_gt at_ g st o
        rw [run_on ho hon, run_on ho hon]
        exact run_fuel f k _ _ (by omega) (by omega)
      | false =>
        rw [run, run, ho]
        cases o <;> first
          | rfl
          | cases hon
/-- a part of a recipe -/
structure Good (l : List Char) (b : Bool) (os : List TO) : Prop where
  len : os.length ≤ 31
  ok : ∀ (i : Nat) (o : TO), os[i]? = some o → o.ok l b ((os.length : Int) - i - 1)
theorem ord_ix {os : List TO} {at_ : Nat} {o : TO} (h : os[at_]? = some o) : atI (os.map TO.d) (at_ : Int) = some o.d := by
  rw [atI_nat rfl, List.getElem?_map, h]
  rfl
theorem frz_ints {s : S} {n k : Nat} : ∀ xs : List Int, allD (frzD s n (k + 1)) (xs.map .int) = some (xs.map .int)
  | [] => rfl
  | x :: xs => by
    show (match frzD s n (k + 1) (.int x), allD (frzD s n (k + 1)) (xs.map .int) with | some y, some ys => some (y :: ys) | _, _ => none) = _
    rw [frz_ints xs]
    rfl
theorem lt_bls {n : Nat} : ∀ xs : List Bool, ltDs n (xs.map .bl) = true
  | [] => rfl
  | x :: xs => by
    show (ltD n (.bl x) && ltDs n (xs.map .bl)) = true
    rw [lt_bls xs]
    rfl
structure Low (n : Nat) (A1 A2 A3 A4 : O) : Prop where
  a : ltO n A1 = true
  b : ltO n A2 = true
  c : ltO n A3 = true
  d : ltO n A4 = true
theorem fz_pair {p : List Int} {b : Bool} (hlow : Low 6 A1 A2 A3 A4) (k : Q (.tup [.lst (p.map .int), .bl b]) (spS A1 A2 A3 A4 st [])) : fzQ 6 Q (.tup [.ref 6, .bl b]) (spS A1 A2 A3 A4 st [.lst (p.map .int)]) := by
  refine ⟨.tup [.lst (p.map .int), .bl b], ?_, ?_, k⟩
  · have e2 : frzD (spS A1 A2 A3 A4 st [.lst (p.map .int)]) 6 19 (.ref 6) = some (.lst (p.map .int)) := by
      show (allD (frzD _ 6 18) (p.map .int)).map D.lst = _
      rw [frz_ints (k := 17) p]
      rfl
    show (allD (frzD _ 6 19) [.ref 6, .bl b]).map D.tup = _
    have e3 : frzD (spS A1 A2 A3 A4 st [.lst (p.map .int)]) 6 19 (.bl b) = some (.bl b) := rfl
    simp only [allD, e2, e3]
    rfl
  · unfold stOk spS
    have e1 : ltO 6 (.ins "Speller" (fsS st)) = true := rfl
    have e2 : ltO 6 (.lst (st.fl.map .bl)) = true := lt_bls st.fl
    simp [hlow.a, hlow.b, hlow.c, hlow.d, e1, e2]
def ex_c : MT := tBool (m2 dLt (mVar 4) (mN dLen (aCons (mVar 1) aNil)))
def ex_b : MS := (ssCons (sSet 5 (m2 dIx (mVar 1) (mVar 4)))
  (ssCons (sExpr (mMt "list" dAppend (mVar 3) (aCons (mVar 4) aNil)))
  (ssCons (sIf (tBool (m2 dIn (m2 dIx (mVar 5) (mC (.int 0))) (mN dTup (aCons (mC (.str "next")) (aCons (mC (.str "lose")) aNil)))))
  (sRet (mN dTup (aCons (mVar 3) (aCons (m2 dEq (m2 dIx (mVar 5) (mC (.int 0))) (mC (.str "next"))) aNil))))
  ssNil)
  (ssCons (sExpr (mMeth "do" [("Speller", f_Speller_do)] (mVar 0) (aCons (mVar 5) (aCons (mVar 2) aNil))))
  (sAug 4 dIAdd (m2 dAdd (mC (.int 1)) (mMeth "skipped" [("Speller", f_Speller_skipped)] (mVar 0) (aCons (mVar 5) (aCons (mVar 2) aNil)))))))))
theorem no_do : (fsS st).lookup (Str.ofString "do") = none := by simp only [fsS, List.lookup_cons, str_beq, String.reduceBEq, List.lookup_nil]
theorem no_skipped : (fsS st).lookup (Str.ofString "skipped") = none := by simp only [fsS, List.lookup_cons, str_beq, String.reduceBEq, List.lookup_nil]
theorem no_execute : (fsS st).lookup (Str.ofString "execute") = none := by simp only [fsS, List.lookup_cons, str_beq, String.reduceBEq, List.lookup_nil]
theorem d_0 (o : TO) {s : S} {Q : D → S → Prop} : wp (dIx o.d (.int 0) s) Q = Q (.str (Str.ofString o.word)) s := by
  unfold TO.d
  rw [w_ixT, at_0]
theorem on_word {o : TO} (h : o.on = true) : (("next" == o.word) || (("lose" == o.word) || false)) = false := by
  cases o with
  | next => exact nomatch (show false = true from h)
  | lose => exact nomatch (show false = true from h)
  | _ => simp [TO.word]
theorem exec_loop {os : List TO} {b : Bool} (hg : Good l b os) (hs : g.length ≤ 1) (hlow : Low 6 A1 A2 A3 A4) : ∀ (f at_ m : Nat) (st : Sta) (p : List Int) (v5 : Option D), os.length ≤ at_ + f → m + 2 * f ≤ 1000000 → Sk m st → p.length ≤ at_ → p.length ≤ 31 →
    (∀ p' : List Int, Q (.tup [.lst (p'.map .int), .bl (run os g f at_ st).1]) (spS A1 A2 A3 A4 (run os g f at_ st).2 [])) →
    wS (sWhile ex_c ex_b [some (.ref 4), some (.lst (os.map TO.d)), some (.str (tx g)), some (.ref 6), some (.int at_), v5] (spS A1 A2 A3 A4 st [.lst (p.map .int)])) (seqQ (sRet (mN dTup (aCons (mVar 3) (aCons (mC (.bl true)) aNil)))) (rtQ (fzQ 6 Q)))
  | f, at_, m, st, p, v5, hl, hm, hsk, hp, hp31, k => by
    have hlen : (os.map TO.d).length = os.length := List.length_map _
    have h31 := hg.len
    rw [wS_while]
    unfold ex_c
    simp only [wp_tBool, wp_m2, wp_mN, wp_aCons, wp_aNil, wp_var, List.getElem?_cons_zero, List.getElem?_cons_succ, w_len, w_lt, hlen]
    by_cases hlt : at_ < os.length
    · rw [if_pos (decide_eq_true (by omega))]
      obtain ⟨f, rfl⟩ : ∃ f', f = f' + 1 := ⟨f - 1, by omega⟩
      have ho : os[at_]? = some os[at_] := List.getElem?_eq_getElem hlt
      generalize os[at_] = o at ho
      have hok := hg.ok at_ o ho
      have gt := to_gt at_ g st o
      unfold ex_b
      rw [wS_cons, wS_set, wp_m2, wp_var]
      simp only [wp_var, List.getElem?_cons_zero, List.getElem?_cons_succ, w_ix, ord_ix ho, List.set_cons_succ, List.set_cons_zero, seqQ]
      rw [wS_cons, wS_expr, wp_mt]
      simp only [wp_var, List.getElem?_cons_zero, List.getElem?_cons_succ]
      have hat : (spS A1 A2 A3 A4 st [.lst (p.map .int)])[6]? = some (.lst (p.map .int)) := rfl
      refine ⟨hasTy_ref hat, ?_⟩
      simp only [wp_aCons, wp_aNil, wp_var, List.getElem?_cons_zero, List.getElem?_cons_succ]
      rw [w_append hat]
      refine ⟨Nat.lt_of_le_of_lt (show (p.map D.int).length ≤ 31 by rw [List.length_map]; exact hp31) (by decide), ?_⟩
      have ep : (spS A1 A2 A3 A4 st [.lst (p.map .int)]).set 6 (.lst (p.map D.int ++ [D.int at_])) = spS A1 A2 A3 A4 st [.lst ((p ++ [(at_ : Int)]).map .int)] := by simp [spS]
      rw [ep]
      simp only [seqQ]
      by_cases hon : o.on = true
      · rw [run_on ho hon] at k
        have go := exec_loop hg hs hlow f (o.to at_ g st) (m + 2) (o.step g st) (p ++ [(at_ : Int)]) (some o.d) (by omega) (by omega) (hsk.step hs hok) (by simp; omega) (by simp; omega) k
        simp only [wS_cons, wS_if, wp_tBool, wp_m2, wp_var, wp_mN, wp_aCons, wp_aNil, List.getElem?_cons_zero, List.getElem?_cons_succ, wp_mC, d_0, w_tup, List.length_cons, List.length_nil, Nat.zero_add, Nat.reduceAdd]
        refine ⟨by decide, ?_⟩
        rw [w_inU2]
        simp only [on_word hon, Bool.false_eq_true, if_false, wS_nil, seqQ, wS_cons, wS_expr, wp_meth, wp_var, wp_aCons, wp_aNil, List.getElem?_cons_zero, List.getElem?_cons_succ, insS, List.lookup_cons, beq_self_eq_true, no_do]
        refine do_wp hsk (by omega) hs hok hon ?_
        simp only [wS_aug, wp_m2, wp_mC, wp_meth, wp_var, wp_aCons, wp_aNil, List.getElem?_cons_zero, List.getElem?_cons_succ, insS, List.lookup_cons, beq_self_eq_true, no_skipped]
        refine skip_wp (at_ := at_) (hsk.step hs hok) hs hok hon ?_
        rw [to_step hon, w_add, w_iadd]
        have e2 : (at_ : Int) + (1 + (((o.to at_ g st : Nat) : Int) - at_ - 1)) = ((o.to at_ g st : Nat) : Int) := by omega
        rw [e2]
        exact go
      · have hoff : o = .next ∨ o = .lose := by
          cases o <;> first
            | exact .inl rfl
            | exact .inr rfl
            | exact absurd rfl hon
        rcases hoff with rfl | rfl
        · rw [run, ho] at k
          simp only [wp_ok, wp_bad, wp_bind, wS_ok, wS_bad, wS_cons, wS_nil, wS_pass, wS_break, wS_cont, wS_never, wS_set, wS_expr, wS_ret, wS_retN, wS_if, wS_asg, wS_aug, wS_for, wp_lc, wp_m1, wp_m2, wp_mN, wp_aNil, wp_aCons, wp_mC, wp_var, wp_if, wp_and, wp_or, wp_not, wp_chain, wp_mt, wp_get, wp_isi, wp_fld, wp_sl, wp_oNone, wp_oSome, wp_tBool, wp_tTru, wp_tNot, wp_tAnd, wp_tOr, wp_tAll, wp_gSlot, wp_gsNil, wp_gsCons, wp_gTup, wp_gSub, wp_iAny, wp_iSeq, wp_iTup, wp_iStr, wp_iRange1, wp_iRange2, wp_iZip, wS_fld, wp_make, seqQ, rtQ, turnQ, List.getElem?_cons_zero, List.getElem?_cons_succ, List.set_cons_zero, List.set_cons_succ, wipeD, if_true, if_false, Bool.false_eq_true, Bool.true_eq_false, reduceIte, w_add, w_iadd, w_iaddS, w_addS, w_addL, w_addT, w_sub, w_mul, w_mod, w_fdiv, w_pow, w_neg, w_lt, w_le, w_gt, w_ge, w_eqI, w_neI, w_eqT, w_neT, w_isN, w_isnotN, w_isB, w_isNB, w_len, w_lenT, w_int, w_intB, w_abs, w_min, w_max, w_tup, w_lst, w_new, w_list, w_listN, w_ix, w_ixT, w_ixD, w_inT1, w_notinT1, w_inT2, w_notinT2, w_inT3, w_notinT3, w_inT4, w_notinT4, w_inT5, w_notinT5, w_inT6, w_notinT6, w_inT7, w_notinT7, w_inT8, w_notinT8, w_sl1, at_0, at_1, at_2, at_3, at_4, at_5, hasTy_list, hasTy_str, isNonD, flatD, sEq_T, List.all_cons, List.all_nil, List.any_cons, List.any_nil, Bool.and_true, Bool.true_and, Bool.or_false, Bool.or_true, Bool.true_or, Bool.false_or, Bool.not_true, Bool.not_false, List.length_cons, List.length_nil, Nat.zero_add, Nat.reduceAdd, line_eq, true_and, and_true, String.reduceBEq, Int.reduceBEq, decide_true, decide_false, Int.reduceLT, Int.reduceLE, beq_self_eq_true, Nat.reduceLeDiff]
          simp only [d_0, TO.word, w_inU2, w_eqT, String.reduceBEq, Bool.true_or, Bool.or_true, if_true]
          try simp only [wp_ok, wp_bad, wp_bind, wS_ok, wS_bad, wS_cons, wS_nil, wS_pass, wS_break, wS_cont, wS_never, wS_set, wS_expr, wS_ret, wS_retN, wS_if, wS_asg, wS_aug, wS_for, wp_lc, wp_m1, wp_m2, wp_mN, wp_aNil, wp_aCons, wp_mC, wp_var, wp_if, wp_and, wp_or, wp_not, wp_chain, wp_mt, wp_get, wp_isi, wp_fld, wp_sl, wp_oNone, wp_oSome, wp_tBool, wp_tTru, wp_tNot, wp_tAnd, wp_tOr, wp_tAll, wp_gSlot, wp_gsNil, wp_gsCons, wp_gTup, wp_gSub, wp_iAny, wp_iSeq, wp_iTup, wp_iStr, wp_iRange1, wp_iRange2, wp_iZip, wS_fld, wp_make, seqQ, rtQ, turnQ, List.getElem?_cons_zero, List.getElem?_cons_succ, List.set_cons_zero, List.set_cons_succ, wipeD, if_true, if_false, Bool.false_eq_true, Bool.true_eq_false, reduceIte, w_add, w_iadd, w_iaddS, w_addS, w_addL, w_addT, w_sub, w_mul, w_mod, w_fdiv, w_pow, w_neg, w_lt, w_le, w_gt, w_ge, w_eqI, w_neI, w_eqT, w_neT, w_isN, w_isnotN, w_isB, w_isNB, w_len, w_lenT, w_int, w_intB, w_abs, w_min, w_max, w_tup, w_lst, w_new, w_list, w_listN, w_ix, w_ixT, w_ixD, w_inT1, w_notinT1, w_inT2, w_notinT2, w_inT3, w_notinT3, w_inT4, w_notinT4, w_inT5, w_notinT5, w_inT6, w_notinT6, w_inT7, w_notinT7, w_inT8, w_notinT8, w_sl1, at_0, at_1, at_2, at_3, at_4, at_5, hasTy_list, hasTy_str, isNonD, flatD, sEq_T, List.all_cons, List.all_nil, List.any_cons, List.any_nil, Bool.and_true, Bool.true_and, Bool.or_false, Bool.or_true, Bool.true_or, Bool.false_or, Bool.not_true, Bool.not_false, List.length_cons, List.length_nil, Nat.zero_add, Nat.reduceAdd, line_eq, true_and, and_true, String.reduceBEq, Int.reduceBEq, decide_true, decide_false, Int.reduceLT, Int.reduceLE, beq_self_eq_true, Nat.reduceLeDiff]
          exact fz_pair hlow (k _)
        · rw [run, ho] at k
          simp only [wp_ok, wp_bad, wp_bind, wS_ok, wS_bad, wS_cons, wS_nil, wS_pass, wS_break, wS_cont, wS_never, wS_set, wS_expr, wS_ret, wS_retN, wS_if, wS_asg, wS_aug, wS_for, wp_lc, wp_m1, wp_m2, wp_mN, wp_aNil, wp_aCons, wp_mC, wp_var, wp_if, wp_and, wp_or, wp_not, wp_chain, wp_mt, wp_get, wp_isi, wp_fld, wp_sl, wp_oNone, wp_oSome, wp_tBool, wp_tTru, wp_tNot, wp_tAnd, wp_tOr, wp_tAll, wp_gSlot, wp_gsNil, wp_gsCons, wp_gTup, wp_gSub, wp_iAny, wp_iSeq, wp_iTup, wp_iStr, wp_iRange1, wp_iRange2, wp_iZip, wS_fld, wp_make, seqQ, rtQ, turnQ, List.getElem?_cons_zero, List.getElem?_cons_succ, List.set_cons_zero, List.set_cons_succ, wipeD, if_true, if_false, Bool.false_eq_true, Bool.true_eq_false, reduceIte, w_add, w_iadd, w_iaddS, w_addS, w_addL, w_addT, w_sub, w_mul, w_mod, w_fdiv, w_pow, w_neg, w_lt, w_le, w_gt, w_ge, w_eqI, w_neI, w_eqT, w_neT, w_isN, w_isnotN, w_isB, w_isNB, w_len, w_lenT, w_int, w_intB, w_abs, w_min, w_max, w_tup, w_lst, w_new, w_list, w_listN, w_ix, w_ixT, w_ixD, w_inT1, w_notinT1, w_inT2, w_notinT2, w_inT3, w_notinT3, w_inT4, w_notinT4, w_inT5, w_notinT5, w_inT6, w_notinT6, w_inT7, w_notinT7, w_inT8, w_notinT8, w_sl1, at_0, at_1, at_2, at_3, at_4, at_5, hasTy_list, hasTy_str, isNonD, flatD, sEq_T, List.all_cons, List.all_nil, List.any_cons, List.any_nil, Bool.and_true, Bool.true_and, Bool.or_false, Bool.or_true, Bool.true_or, Bool.false_or, Bool.not_true, Bool.not_false, List.length_cons, List.length_nil, Nat.zero_add, Nat.reduceAdd, line_eq, true_and, and_true, String.reduceBEq, Int.reduceBEq, decide_true, decide_false, Int.reduceLT, Int.reduceLE, beq_self_eq_true, Nat.reduceLeDiff]
          simp only [d_0, TO.word, w_inU2, w_eqT, String.reduceBEq, Bool.true_or, Bool.or_true, Bool.false_or, if_true]
          try simp only [wp_ok, wp_bad, wp_bind, wS_ok, wS_bad, wS_cons, wS_nil, wS_pass, wS_break, wS_cont, wS_never, wS_set, wS_expr, wS_ret, wS_retN, wS_if, wS_asg, wS_aug, wS_for, wp_lc, wp_m1, wp_m2, wp_mN, wp_aNil, wp_aCons, wp_mC, wp_var, wp_if, wp_and, wp_or, wp_not, wp_chain, wp_mt, wp_get, wp_isi, wp_fld, wp_sl, wp_oNone, wp_oSome, wp_tBool, wp_tTru, wp_tNot, wp_tAnd, wp_tOr, wp_tAll, wp_gSlot, wp_gsNil, wp_gsCons, wp_gTup, wp_gSub, wp_iAny, wp_iSeq, wp_iTup, wp_iStr, wp_iRange1, wp_iRange2, wp_iZip, wS_fld, wp_make, seqQ, rtQ, turnQ, List.getElem?_cons_zero, List.getElem?_cons_succ, List.set_cons_zero, List.set_cons_succ, wipeD, if_true, if_false, Bool.false_eq_true, Bool.true_eq_false, reduceIte, w_add, w_iadd, w_iaddS, w_addS, w_addL, w_addT, w_sub, w_mul, w_mod, w_fdiv, w_pow, w_neg, w_lt, w_le, w_gt, w_ge, w_eqI, w_neI, w_eqT, w_neT, w_isN, w_isnotN, w_isB, w_isNB, w_len, w_lenT, w_int, w_intB, w_abs, w_min, w_max, w_tup, w_lst, w_new, w_list, w_listN, w_ix, w_ixT, w_ixD, w_inT1, w_notinT1, w_inT2, w_notinT2, w_inT3, w_notinT3, w_inT4, w_notinT4, w_inT5, w_notinT5, w_inT6, w_notinT6, w_inT7, w_notinT7, w_inT8, w_notinT8, w_sl1, at_0, at_1, at_2, at_3, at_4, at_5, hasTy_list, hasTy_str, isNonD, flatD, sEq_T, List.all_cons, List.all_nil, List.any_cons, List.any_nil, Bool.and_true, Bool.true_and, Bool.or_false, Bool.or_true, Bool.true_or, Bool.false_or, Bool.not_true, Bool.not_false, List.length_cons, List.length_nil, Nat.zero_add, Nat.reduceAdd, line_eq, true_and, and_true, String.reduceBEq, Int.reduceBEq, decide_true, decide_false, Int.reduceLT, Int.reduceLE, beq_self_eq_true, Nat.reduceLeDiff]
          exact fz_pair hlow (k _)
    · rw [if_neg (by simp; omega)]
      rw [run_end (by omega)] at k
      simp only [wp_ok, wp_bad, wp_bind, wS_ok, wS_bad, wS_cons, wS_nil, wS_pass, wS_break, wS_cont, wS_never, wS_set, wS_expr, wS_ret, wS_retN, wS_if, wS_asg, wS_aug, wS_for, wp_lc, wp_m1, wp_m2, wp_mN, wp_aNil, wp_aCons, wp_mC, wp_var, wp_if, wp_and, wp_or, wp_not, wp_chain, wp_mt, wp_get, wp_isi, wp_fld, wp_sl, wp_oNone, wp_oSome, wp_tBool, wp_tTru, wp_tNot, wp_tAnd, wp_tOr, wp_tAll, wp_gSlot, wp_gsNil, wp_gsCons, wp_gTup, wp_gSub, wp_iAny, wp_iSeq, wp_iTup, wp_iStr, wp_iRange1, wp_iRange2, wp_iZip, wS_fld, wp_make, seqQ, rtQ, turnQ, List.getElem?_cons_zero, List.getElem?_cons_succ, List.set_cons_zero, List.set_cons_succ, wipeD, if_true, if_false, Bool.false_eq_true, Bool.true_eq_false, reduceIte, w_add, w_iadd, w_iaddS, w_addS, w_addL, w_addT, w_sub, w_mul, w_mod, w_fdiv, w_pow, w_neg, w_lt, w_le, w_gt, w_ge, w_eqI, w_neI, w_eqT, w_neT, w_isN, w_isnotN, w_isB, w_isNB, w_len, w_lenT, w_int, w_intB, w_abs, w_min, w_max, w_tup, w_lst, w_new, w_list, w_listN, w_ix, w_ixT, w_ixD, w_inT1, w_notinT1, w_inT2, w_notinT2, w_inT3, w_notinT3, w_inT4, w_notinT4, w_inT5, w_notinT5, w_inT6, w_notinT6, w_inT7, w_notinT7, w_inT8, w_notinT8, w_sl1, at_0, at_1, at_2, at_3, at_4, at_5, hasTy_list, hasTy_str, isNonD, flatD, sEq_T, List.all_cons, List.all_nil, List.any_cons, List.any_nil, Bool.and_true, Bool.true_and, Bool.or_false, Bool.or_true, Bool.true_or, Bool.false_or, Bool.not_true, Bool.not_false, List.length_cons, List.length_nil, Nat.zero_add, Nat.reduceAdd, line_eq, true_and, and_true, String.reduceBEq, Int.reduceBEq, decide_true, decide_false, Int.reduceLT, Int.reduceLE, beq_self_eq_true, Nat.reduceLeDiff]
      exact fz_pair hlow (k _)
theorem exec_wp {os : List TO} {b : Bool} (hg : Good l b os) (hs : g.length ≤ 1) (hlow : Low 6 A1 A2 A3 A4) {m : Nat} (hm : m + 62 ≤ 1000000) (hsk : Sk m st)
    (k : ∀ p' : List Int, Q (.tup [.lst (p'.map .int), .bl (run os g os.length 0 st).1]) (spS A1 A2 A3 A4 (run os g os.length 0 st).2 [])) :
    wp (f_Speller_execute [.ref 4, .lst (os.map TO.d), .str (tx g)] (spS A1 A2 A3 A4 st [])) Q := by
  have h31 := hg.len
  refine wp_mkFz ((wp_fn (n := 3) (tot := 6) (m := m_Speller_execute) rfl).mpr ?_)
  show wS (m_Speller_execute [some (.ref 4), some (.lst (os.map TO.d)), some (.str (tx g)), none, none, none] _) _
  show wS (ssCons (sSet 3 (mN dNew aNil)) (ssCons (sSet 4 (mC (.int 0))) (ssCons (sWhile ex_c ex_b) _)) _ _) _
  simp only [wS_cons, wS_set, wp_mN, wp_aNil, wp_mC, w_new, List.set_cons_succ, List.set_cons_zero, seqQ]
  refine ⟨by decide, ?_⟩
  exact exec_loop (p := []) hg hs hlow os.length 0 m st none (by omega) (by omega) hsk (by simp) (by simp) k
end
end
end K11
namespace K11
open PySem PySem.Spec PyProof.Rows L2 Pm
noncomputable section
/-! ### the law's own world -/
def wK (st : Sta) : List (Key × D) := [(.inr (Str.ofString "flags"), .ref 5), (.inr (Str.ofString "kept"), .str (tx st.kept)), (.inr (Str.ofString "written"), .str (tx st.wr))]
def wdS (A1 A2 A3 A4 : O) (st : Sta) : S := [A1, A2, A3, A4, .dK (wK st), .lst (st.fl.map .bl)]
section
variable {A1 A2 A3 A4 : O} {st : Sta} {Q : D → S → Prop} {g l : List Char} {n : Nat}
theorem wd_at : (wdS A1 A2 A3 A4 st)[4]? = some (.dK (wK st)) := rfl
theorem wd_fl : (wdS A1 A2 A3 A4 st)[5]? = some (.lst (st.fl.map .bl)) := rfl
theorem kb (x y : String) : ((Sum.inr (Str.ofString x) : Key) == .inr (Str.ofString y)) = (x == y) := str_beq x y
theorem ix_flags : wp (dIxK (.ref 4) (.str (Str.ofString "flags")) (wdS A1 A2 A3 A4 st)) Q = Q (.ref 5) (wdS A1 A2 A3 A4 st) := by
  rw [w_ixK wd_at]
  simp only [wK, valD, List.find?_cons, ofString_inj, Sum.inr.injEq, String.reduceEq, decide_true, decide_false, Option.map_some]
theorem ix_kept : wp (dIxK (.ref 4) (.str (Str.ofString "kept")) (wdS A1 A2 A3 A4 st)) Q = Q (.str (tx st.kept)) (wdS A1 A2 A3 A4 st) := by
  rw [w_ixK wd_at]
  simp only [wK, valD, List.find?_cons, ofString_inj, Sum.inr.injEq, String.reduceEq, decide_true, decide_false, Option.map_some]
theorem ix_wr : wp (dIxK (.ref 4) (.str (Str.ofString "written")) (wdS A1 A2 A3 A4 st)) Q = Q (.str (tx st.wr)) (wdS A1 A2 A3 A4 st) := by
  rw [w_ixK wd_at]
  simp only [wK, valD, List.find?_cons, ofString_inj, Sum.inr.injEq, String.reduceEq, decide_true, decide_false, Option.map_some]
theorem put_wr {k : List Char} : dStoreK (.ref 4) (.str (Str.ofString "written")) (.str (tx k)) (wdS A1 A2 A3 A4 st) = some (wdS A1 A2 A3 A4 { st with wr := k }) := by
  rw [put_K wd_at (by show 3 ≤ 1000000; decide)]
  have e : putD (wK st) (.inr (Str.ofString "written")) (.str (tx k)) = wK { st with wr := k } := by
    simp [wK, putD, List.any_cons, ofString_inj, List.map_cons]
  rw [e]
  rfl
theorem put_kept {k : List Char} : dStoreK (.ref 4) (.str (Str.ofString "kept")) (.str (tx k)) (wdS A1 A2 A3 A4 st) = some (wdS A1 A2 A3 A4 { st with kept := k }) := by
  rw [put_K wd_at (by show 3 ≤ 1000000; decide)]
  have e : putD (wK st) (.inr (Str.ofString "kept")) (.str (tx k)) = wK { st with kept := k } := by
    simp [wK, putD, List.any_cons, ofString_inj, List.map_cons]
  rw [e]
  rfl
theorem wflag_ix (h : Sk n st) {f : Int} (hf : fg f) : wp (dIx (.ref 5) (.int f) (wdS A1 A2 A3 A4 st)) Q = Q (.bl (st.flag f)) (wdS A1 A2 A3 A4 st) := by
  have hl : f.toNat < st.fl.length := by rw [h.fl]; have := hf.1; have := hf.2; omega
  rw [w_ixR wd_fl, atI_nat (n := f.toNat) (by have := hf.1; omega), List.getElem?_map, List.getElem?_eq_getElem hl]
  have e : st.flag f = st.fl[f.toNat] := by
    unfold Sta.flag
    rw [List.getD_eq_getElem?_getD, List.getElem?_eq_getElem hl] <;> rfl
  rw [e]
  rfl
theorem wflag_st (h : Sk n st) {f : Int} {b : Bool} (hf : fg f) : dStore (.ref 5) (.int f) (.bl b) (wdS A1 A2 A3 A4 st) = some (wdS A1 A2 A3 A4 { st with fl := st.fl.set f.toNat b }) := by
  rw [w_store wd_fl hf.1 (by rw [List.length_map, h.fl]; exact hf.2), ← List.map_set]
  rfl
end
def pb : MS := (ssCons (sIf (tBool (m2 dGe (mVar 3) (mN dLen (aCons (mVar 0) aNil))))
  (sRet (mC (.bl true)))
  ssNil)
  (ssCons (sSet 5 (m2 dIx (mVar 0) (mVar 3)))
  (ssCons (sSet 6 (m2 dIx (mVar 5) (mC (.int 0))))
  (ssCons (sSet 3 (m2 dAdd (mVar 3) (mC (.int 1))))
  (ssCons (sIf (tBool (m2 dIn (mVar 6) (mN dLst (aCons (mC (.str "next")) (aCons (mC (.str "lose")) aNil)))))
  (sRet (m2 dEq (mVar 6) (mC (.str "next"))))
  ssNil)
  (sIf (tBool (m2 dEq (mVar 6) (mC (.str "echo"))))
  (sAsg (m2 dAdd (m2 dIxK (mVar 1) (mC (.str "written"))) (mVar 2)) (gSubK (mVar 1) (mC (.str "written"))))
  (sIf (tBool (m2 dEq (mVar 6) (mC (.str "keep"))))
  (sAsg (mVar 2) (gSubK (mVar 1) (mC (.str "kept"))))
  (sIf (tBool (m2 dEq (mVar 6) (mC (.str "pay"))))
  (ssCons (sAsg (m2 dAdd (m2 dIxK (mVar 1) (mC (.str "written"))) (m2 dIxK (mVar 1) (mC (.str "kept")))) (gSubK (mVar 1) (mC (.str "written"))))
  (sAsg (mC (.str "")) (gSubK (mVar 1) (mC (.str "kept")))))
  (sIf (tBool (m2 dEq (mVar 6) (mC (.str "write"))))
  (sAsg (m2 dAdd (m2 dIxK (mVar 1) (mC (.str "written"))) (m2 dIx (mVar 5) (mC (.int 1)))) (gSubK (mVar 1) (mC (.str "written"))))
  (sIf (tBool (m2 dIn (mVar 6) (mN dLst (aCons (mC (.str "raise")) (aCons (mC (.str "lower")) aNil)))))
  (sAsg (m2 dEq (mVar 6) (mC (.str "raise"))) (gSubD (m2 dIxK (mVar 1) (mC (.str "flags"))) (m2 dIx (mVar 5) (mC (.int 1)))))
  (sIf (tBool (m2 dEq (mVar 6) (mC (.str "skip"))))
  (sSet 3 (m2 dAdd (mVar 3) (m2 dIx (mVar 5) (mC (.int 1)))))
  (sIf (tBool (m2 dEq (mVar 6) (mC (.str "sign"))))
  (sSet 3 (m2 dAdd (mVar 3) (m2 dMul (m2 dIx (mVar 5) (mC (.int 2))) (mN dInt (aCons (m2 dNe (mVar 2) (m2 dIx (mVar 5) (mC (.int 1)))) aNil)))))
  (sIf (tBool (m2 dEq (mVar 6) (mC (.str "kept"))))
  (sSet 3 (m2 dAdd (mVar 3) (m2 dMul (m2 dIx (mVar 5) (mC (.int 2))) (mN dInt (aCons (m2 dNe (m2 dIxK (mVar 1) (mC (.str "kept"))) (m2 dIx (mVar 5) (mC (.int 1)))) aNil)))))
  (sSet 3 (m2 dAdd (mVar 3) (m2 dMul (m2 dIx (mVar 5) (mC (.int 2))) (mN dInt (aCons (m2 dNe (m2 dIx (m2 dIxK (mVar 1) (mC (.str "flags"))) (m2 dIx (mVar 5) (mC (.int 1)))) (m2 dEq (mVar 6) (mC (.str "up")))) aNil))))))))))))))))))
theorem wb_ne {a b : Bool} {s : S} {Q : D → S → Prop} : wp (dNe (.bl a) (.bl b) s) Q = Q (.bl (a != b)) s := by cases a <;> cases b <;> exact wp_ok
theorem part_turn {A1 A2 A3 A4 : O} {st : Sta} {g l : List Char} {n : Nat} {os : List TO} {at_ : Nat} {o : TO} {v4 v5 v6 : Option D} {b : Bool} {i : Int} {Q : C → S → Prop} (h31 : os.length ≤ 31) (hi : i ≤ 1000) (h : Sk n st) (hn : n ≤ 1000000) (hg : g.length ≤ 1) (ho : os[at_]? = some o) (hok : o.ok l b i) (hon : o.on = true)
    (k : ∀ v5 v6, Q (.nx [some (.lst (os.map TO.d)), some (.ref 4), some (.str (tx g)), some (.int (o.to at_ g st : Nat)), v4, v5, v6]) (wdS A1 A2 A3 A4 (o.step g st))) :
    wS (pb [some (.lst (os.map TO.d)), some (.ref 4), some (.str (tx g)), some (.int at_), v4, v5, v6] (wdS A1 A2 A3 A4 st)) Q := by
  have hlt : at_ < os.length := (List.getElem?_eq_some_iff.mp ho).1
  have hlen : (os.map TO.d).length = os.length := List.length_map _
  have hge : decide ((at_ : Int) ≥ (os.length : Nat)) = false := decide_eq_false (by omega)
  have h1 := h.kept
  have h2 := h.wr
  have ek : ∀ c : Int, 0 ≤ c → ((at_ + 1 : Nat) : Int) + c = ((at_ + 1 + c.toNat : Nat) : Int) := fun c hc => by omega
  have e1 : ((at_ : Int) + 1) = ((at_ + 1 : Nat) : Int) := by omega
  have hz : ∀ w : List Char, w.length ≤ 2 → st.wr.length + w.length ≤ sizeLine := fun w hw => by rw [line_eq]; omega
  unfold pb
  simp only [wp_ok, wp_bad, wp_bind, wS_ok, wS_bad, wS_cons, wS_nil, wS_pass, wS_break, wS_cont, wS_never, wS_set, wS_expr, wS_ret, wS_retN, wS_if, wS_asg, wS_aug, wS_for, wp_lc, wp_m1, wp_m2, wp_mN, wp_aNil, wp_aCons, wp_mC, wp_var, wp_if, wp_and, wp_or, wp_not, wp_chain, wp_mt, wp_get, wp_isi, wp_fld, wp_sl, wp_oNone, wp_oSome, wp_tBool, wp_tTru, wp_tNot, wp_tAnd, wp_tOr, wp_tAll, wp_gSlot, wp_gsNil, wp_gsCons, wp_gTup, wp_gSub, wp_iAny, wp_iSeq, wp_iTup, wp_iStr, wp_iRange1, wp_iRange2, wp_iZip, wS_fld, wp_make, seqQ, rtQ, turnQ, List.getElem?_cons_zero, List.getElem?_cons_succ, List.set_cons_zero, List.set_cons_succ, wipeD, if_true, if_false, Bool.false_eq_true, Bool.true_eq_false, reduceIte, w_add, w_iadd, w_iaddS, w_addS, w_addL, w_addT, w_sub, w_mul, w_mod, w_fdiv, w_pow, w_neg, w_lt, w_le, w_gt, w_ge, w_eqI, w_neI, w_eqT, w_neT, w_isN, w_isnotN, w_isB, w_isNB, w_len, w_lenT, w_int, w_intB, w_abs, w_min, w_max, w_tup, w_lst, w_new, w_list, w_listN, w_ix, w_ixT, w_ixD, w_inT1, w_notinT1, w_inT2, w_notinT2, w_inT3, w_notinT3, w_inT4, w_notinT4, w_inT5, w_notinT5, w_inT6, w_notinT6, w_inT7, w_notinT7, w_inT8, w_notinT8, w_sl1, at_0, at_1, at_2, at_3, at_4, at_5, hasTy_list, hasTy_str, isNonD, flatD, sEq_T, List.all_cons, List.all_nil, List.any_cons, List.any_nil, Bool.and_true, Bool.true_and, Bool.or_false, Bool.or_true, Bool.true_or, Bool.false_or, Bool.not_true, Bool.not_false, List.length_cons, List.length_nil, Nat.zero_add, Nat.reduceAdd, line_eq, true_and, and_true, String.reduceBEq, Int.reduceBEq, decide_true, decide_false, Int.reduceLT, Int.reduceLE, beq_self_eq_true, Nat.reduceLeDiff]
  rw [hlen, hge]
  simp only [wp_ok, wp_bad, wp_bind, wS_ok, wS_bad, wS_cons, wS_nil, wS_pass, wS_break, wS_cont, wS_never, wS_set, wS_expr, wS_ret, wS_retN, wS_if, wS_asg, wS_aug, wS_for, wp_lc, wp_m1, wp_m2, wp_mN, wp_aNil, wp_aCons, wp_mC, wp_var, wp_if, wp_and, wp_or, wp_not, wp_chain, wp_mt, wp_get, wp_isi, wp_fld, wp_sl, wp_oNone, wp_oSome, wp_tBool, wp_tTru, wp_tNot, wp_tAnd, wp_tOr, wp_tAll, wp_gSlot, wp_gsNil, wp_gsCons, wp_gTup, wp_gSub, wp_iAny, wp_iSeq, wp_iTup, wp_iStr, wp_iRange1, wp_iRange2, wp_iZip, wS_fld, wp_make, seqQ, rtQ, turnQ, List.getElem?_cons_zero, List.getElem?_cons_succ, List.set_cons_zero, List.set_cons_succ, wipeD, if_true, if_false, Bool.false_eq_true, Bool.true_eq_false, reduceIte, w_add, w_iadd, w_iaddS, w_addS, w_addL, w_addT, w_sub, w_mul, w_mod, w_fdiv, w_pow, w_neg, w_lt, w_le, w_gt, w_ge, w_eqI, w_neI, w_eqT, w_neT, w_isN, w_isnotN, w_isB, w_isNB, w_len, w_lenT, w_int, w_intB, w_abs, w_min, w_max, w_tup, w_lst, w_new, w_list, w_listN, w_ix, w_ixT, w_ixD, w_inT1, w_notinT1, w_inT2, w_notinT2, w_inT3, w_notinT3, w_inT4, w_notinT4, w_inT5, w_notinT5, w_inT6, w_notinT6, w_inT7, w_notinT7, w_inT8, w_notinT8, w_sl1, at_0, at_1, at_2, at_3, at_4, at_5, hasTy_list, hasTy_str, isNonD, flatD, sEq_T, List.all_cons, List.all_nil, List.any_cons, List.any_nil, Bool.and_true, Bool.true_and, Bool.or_false, Bool.or_true, Bool.true_or, Bool.false_or, Bool.not_true, Bool.not_false, List.length_cons, List.length_nil, Nat.zero_add, Nat.reduceAdd, line_eq, true_and, and_true, String.reduceBEq, Int.reduceBEq, decide_true, decide_false, Int.reduceLT, Int.reduceLE, beq_self_eq_true, Nat.reduceLeDiff]
  simp only [ord_ix ho, d_0, List.set_cons_succ, List.set_cons_zero, Bool.false_eq_true, if_false, e1]
  have bits : ∀ j : Int, 0 ≤ j → j ≤ i → ∀ z : Bool, iBits j + iBits (if z = true then 1 else 0) ≤ 134217728 := fun j h0 hj z => by
    have q1 := small_bits (a := j) (k := 20) (by simp only [Nat.reducePow]; omega)
    have q2 := small_bits (a := if z = true then 1 else 0) (k := 20) (by cases z <;> simp)
    omega
  have em : ∀ j : Int, 0 ≤ j → ∀ z : Bool, ((at_ + 1 : Nat) : Int) + j * (if z = true then 1 else 0) = ((if z = true then at_ + 1 + j.toNat else at_ + 1 : Nat) : Int) := fun j h0 z => by cases z <;> simp <;> omega
  cases o with
  | next => cases hon
  | lose => cases hon
  | echo =>
    simp only [TO.word]
    try simp only [wp_ok, wp_bad, wp_bind, wS_ok, wS_bad, wS_cons, wS_nil, wS_pass, wS_break, wS_cont, wS_never, wS_set, wS_expr, wS_ret, wS_retN, wS_if, wS_asg, wS_aug, wS_for, wp_lc, wp_m1, wp_m2, wp_mN, wp_aNil, wp_aCons, wp_mC, wp_var, wp_if, wp_and, wp_or, wp_not, wp_chain, wp_mt, wp_get, wp_isi, wp_fld, wp_sl, wp_oNone, wp_oSome, wp_tBool, wp_tTru, wp_tNot, wp_tAnd, wp_tOr, wp_tAll, wp_gSlot, wp_gsNil, wp_gsCons, wp_gTup, wp_gSub, wp_iAny, wp_iSeq, wp_iTup, wp_iStr, wp_iRange1, wp_iRange2, wp_iZip, wS_fld, wp_make, seqQ, rtQ, turnQ, List.getElem?_cons_zero, List.getElem?_cons_succ, List.set_cons_zero, List.set_cons_succ, wipeD, if_true, if_false, Bool.false_eq_true, Bool.true_eq_false, reduceIte, w_add, w_iadd, w_iaddS, w_addS, w_addL, w_addT, w_sub, w_mul, w_mod, w_fdiv, w_pow, w_neg, w_lt, w_le, w_gt, w_ge, w_eqI, w_neI, w_eqT, w_neT, w_isN, w_isnotN, w_isB, w_isNB, w_len, w_lenT, w_int, w_intB, w_abs, w_min, w_max, w_tup, w_lst, w_new, w_list, w_listN, w_ix, w_ixT, w_ixD, w_inT1, w_notinT1, w_inT2, w_notinT2, w_inT3, w_notinT3, w_inT4, w_notinT4, w_inT5, w_notinT5, w_inT6, w_notinT6, w_inT7, w_notinT7, w_inT8, w_notinT8, w_sl1, at_0, at_1, at_2, at_3, at_4, at_5, hasTy_list, hasTy_str, isNonD, flatD, sEq_T, List.all_cons, List.all_nil, List.any_cons, List.any_nil, Bool.and_true, Bool.true_and, Bool.or_false, Bool.or_true, Bool.true_or, Bool.false_or, Bool.not_true, Bool.not_false, List.length_cons, List.length_nil, Nat.zero_add, Nat.reduceAdd, line_eq, true_and, and_true, String.reduceBEq, Int.reduceBEq, decide_true, decide_false, Int.reduceLT, Int.reduceLE, beq_self_eq_true, Nat.reduceLeDiff]
    simp only [ix_wr, x_add]
    refine ⟨hz g (by omega), ?_⟩
    try simp only [wp_ok, wp_bad, wp_bind, wS_ok, wS_bad, wS_cons, wS_nil, wS_pass, wS_break, wS_cont, wS_never, wS_set, wS_expr, wS_ret, wS_retN, wS_if, wS_asg, wS_aug, wS_for, wp_lc, wp_m1, wp_m2, wp_mN, wp_aNil, wp_aCons, wp_mC, wp_var, wp_if, wp_and, wp_or, wp_not, wp_chain, wp_mt, wp_get, wp_isi, wp_fld, wp_sl, wp_oNone, wp_oSome, wp_tBool, wp_tTru, wp_tNot, wp_tAnd, wp_tOr, wp_tAll, wp_gSlot, wp_gsNil, wp_gsCons, wp_gTup, wp_gSub, wp_iAny, wp_iSeq, wp_iTup, wp_iStr, wp_iRange1, wp_iRange2, wp_iZip, wS_fld, wp_make, seqQ, rtQ, turnQ, List.getElem?_cons_zero, List.getElem?_cons_succ, List.set_cons_zero, List.set_cons_succ, wipeD, if_true, if_false, Bool.false_eq_true, Bool.true_eq_false, reduceIte, w_add, w_iadd, w_iaddS, w_addS, w_addL, w_addT, w_sub, w_mul, w_mod, w_fdiv, w_pow, w_neg, w_lt, w_le, w_gt, w_ge, w_eqI, w_neI, w_eqT, w_neT, w_isN, w_isnotN, w_isB, w_isNB, w_len, w_lenT, w_int, w_intB, w_abs, w_min, w_max, w_tup, w_lst, w_new, w_list, w_listN, w_ix, w_ixT, w_ixD, w_inT1, w_notinT1, w_inT2, w_notinT2, w_inT3, w_notinT3, w_inT4, w_notinT4, w_inT5, w_notinT5, w_inT6, w_notinT6, w_inT7, w_notinT7, w_inT8, w_notinT8, w_sl1, at_0, at_1, at_2, at_3, at_4, at_5, hasTy_list, hasTy_str, isNonD, flatD, sEq_T, List.all_cons, List.all_nil, List.any_cons, List.any_nil, Bool.and_true, Bool.true_and, Bool.or_false, Bool.or_true, Bool.true_or, Bool.false_or, Bool.not_true, Bool.not_false, List.length_cons, List.length_nil, Nat.zero_add, Nat.reduceAdd, line_eq, true_and, and_true, String.reduceBEq, Int.reduceBEq, decide_true, decide_false, Int.reduceLT, Int.reduceLE, beq_self_eq_true, Nat.reduceLeDiff]
    simp only [wp_gSubK, wp_var, wp_mC, List.getElem?_cons_zero, List.getElem?_cons_succ, put_wr]
    exact k _ _
  | keep =>
    simp only [TO.word]
    try simp only [wp_ok, wp_bad, wp_bind, wS_ok, wS_bad, wS_cons, wS_nil, wS_pass, wS_break, wS_cont, wS_never, wS_set, wS_expr, wS_ret, wS_retN, wS_if, wS_asg, wS_aug, wS_for, wp_lc, wp_m1, wp_m2, wp_mN, wp_aNil, wp_aCons, wp_mC, wp_var, wp_if, wp_and, wp_or, wp_not, wp_chain, wp_mt, wp_get, wp_isi, wp_fld, wp_sl, wp_oNone, wp_oSome, wp_tBool, wp_tTru, wp_tNot, wp_tAnd, wp_tOr, wp_tAll, wp_gSlot, wp_gsNil, wp_gsCons, wp_gTup, wp_gSub, wp_iAny, wp_iSeq, wp_iTup, wp_iStr, wp_iRange1, wp_iRange2, wp_iZip, wS_fld, wp_make, seqQ, rtQ, turnQ, List.getElem?_cons_zero, List.getElem?_cons_succ, List.set_cons_zero, List.set_cons_succ, wipeD, if_true, if_false, Bool.false_eq_true, Bool.true_eq_false, reduceIte, w_add, w_iadd, w_iaddS, w_addS, w_addL, w_addT, w_sub, w_mul, w_mod, w_fdiv, w_pow, w_neg, w_lt, w_le, w_gt, w_ge, w_eqI, w_neI, w_eqT, w_neT, w_isN, w_isnotN, w_isB, w_isNB, w_len, w_lenT, w_int, w_intB, w_abs, w_min, w_max, w_tup, w_lst, w_new, w_list, w_listN, w_ix, w_ixT, w_ixD, w_inT1, w_notinT1, w_inT2, w_notinT2, w_inT3, w_notinT3, w_inT4, w_notinT4, w_inT5, w_notinT5, w_inT6, w_notinT6, w_inT7, w_notinT7, w_inT8, w_notinT8, w_sl1, at_0, at_1, at_2, at_3, at_4, at_5, hasTy_list, hasTy_str, isNonD, flatD, sEq_T, List.all_cons, List.all_nil, List.any_cons, List.any_nil, Bool.and_true, Bool.true_and, Bool.or_false, Bool.or_true, Bool.true_or, Bool.false_or, Bool.not_true, Bool.not_false, List.length_cons, List.length_nil, Nat.zero_add, Nat.reduceAdd, line_eq, true_and, and_true, String.reduceBEq, Int.reduceBEq, decide_true, decide_false, Int.reduceLT, Int.reduceLE, beq_self_eq_true, Nat.reduceLeDiff]
    simp only [wp_gSubK, wp_var, wp_mC, List.getElem?_cons_zero, List.getElem?_cons_succ, put_kept]
    exact k _ _
  | pay =>
    simp only [TO.word]
    try simp only [wp_ok, wp_bad, wp_bind, wS_ok, wS_bad, wS_cons, wS_nil, wS_pass, wS_break, wS_cont, wS_never, wS_set, wS_expr, wS_ret, wS_retN, wS_if, wS_asg, wS_aug, wS_for, wp_lc, wp_m1, wp_m2, wp_mN, wp_aNil, wp_aCons, wp_mC, wp_var, wp_if, wp_and, wp_or, wp_not, wp_chain, wp_mt, wp_get, wp_isi, wp_fld, wp_sl, wp_oNone, wp_oSome, wp_tBool, wp_tTru, wp_tNot, wp_tAnd, wp_tOr, wp_tAll, wp_gSlot, wp_gsNil, wp_gsCons, wp_gTup, wp_gSub, wp_iAny, wp_iSeq, wp_iTup, wp_iStr, wp_iRange1, wp_iRange2, wp_iZip, wS_fld, wp_make, seqQ, rtQ, turnQ, List.getElem?_cons_zero, List.getElem?_cons_succ, List.set_cons_zero, List.set_cons_succ, wipeD, if_true, if_false, Bool.false_eq_true, Bool.true_eq_false, reduceIte, w_add, w_iadd, w_iaddS, w_addS, w_addL, w_addT, w_sub, w_mul, w_mod, w_fdiv, w_pow, w_neg, w_lt, w_le, w_gt, w_ge, w_eqI, w_neI, w_eqT, w_neT, w_isN, w_isnotN, w_isB, w_isNB, w_len, w_lenT, w_int, w_intB, w_abs, w_min, w_max, w_tup, w_lst, w_new, w_list, w_listN, w_ix, w_ixT, w_ixD, w_inT1, w_notinT1, w_inT2, w_notinT2, w_inT3, w_notinT3, w_inT4, w_notinT4, w_inT5, w_notinT5, w_inT6, w_notinT6, w_inT7, w_notinT7, w_inT8, w_notinT8, w_sl1, at_0, at_1, at_2, at_3, at_4, at_5, hasTy_list, hasTy_str, isNonD, flatD, sEq_T, List.all_cons, List.all_nil, List.any_cons, List.any_nil, Bool.and_true, Bool.true_and, Bool.or_false, Bool.or_true, Bool.true_or, Bool.false_or, Bool.not_true, Bool.not_false, List.length_cons, List.length_nil, Nat.zero_add, Nat.reduceAdd, line_eq, true_and, and_true, String.reduceBEq, Int.reduceBEq, decide_true, decide_false, Int.reduceLT, Int.reduceLE, beq_self_eq_true, Nat.reduceLeDiff]
    simp only [ix_wr, ix_kept, x_add]
    refine ⟨hz _ (by omega), ?_⟩
    try simp only [wp_ok, wp_bad, wp_bind, wS_ok, wS_bad, wS_cons, wS_nil, wS_pass, wS_break, wS_cont, wS_never, wS_set, wS_expr, wS_ret, wS_retN, wS_if, wS_asg, wS_aug, wS_for, wp_lc, wp_m1, wp_m2, wp_mN, wp_aNil, wp_aCons, wp_mC, wp_var, wp_if, wp_and, wp_or, wp_not, wp_chain, wp_mt, wp_get, wp_isi, wp_fld, wp_sl, wp_oNone, wp_oSome, wp_tBool, wp_tTru, wp_tNot, wp_tAnd, wp_tOr, wp_tAll, wp_gSlot, wp_gsNil, wp_gsCons, wp_gTup, wp_gSub, wp_iAny, wp_iSeq, wp_iTup, wp_iStr, wp_iRange1, wp_iRange2, wp_iZip, wS_fld, wp_make, seqQ, rtQ, turnQ, List.getElem?_cons_zero, List.getElem?_cons_succ, List.set_cons_zero, List.set_cons_succ, wipeD, if_true, if_false, Bool.false_eq_true, Bool.true_eq_false, reduceIte, w_add, w_iadd, w_iaddS, w_addS, w_addL, w_addT, w_sub, w_mul, w_mod, w_fdiv, w_pow, w_neg, w_lt, w_le, w_gt, w_ge, w_eqI, w_neI, w_eqT, w_neT, w_isN, w_isnotN, w_isB, w_isNB, w_len, w_lenT, w_int, w_intB, w_abs, w_min, w_max, w_tup, w_lst, w_new, w_list, w_listN, w_ix, w_ixT, w_ixD, w_inT1, w_notinT1, w_inT2, w_notinT2, w_inT3, w_notinT3, w_inT4, w_notinT4, w_inT5, w_notinT5, w_inT6, w_notinT6, w_inT7, w_notinT7, w_inT8, w_notinT8, w_sl1, at_0, at_1, at_2, at_3, at_4, at_5, hasTy_list, hasTy_str, isNonD, flatD, sEq_T, List.all_cons, List.all_nil, List.any_cons, List.any_nil, Bool.and_true, Bool.true_and, Bool.or_false, Bool.or_true, Bool.true_or, Bool.false_or, Bool.not_true, Bool.not_false, List.length_cons, List.length_nil, Nat.zero_add, Nat.reduceAdd, line_eq, true_and, and_true, String.reduceBEq, Int.reduceBEq, decide_true, decide_false, Int.reduceLT, Int.reduceLE, beq_self_eq_true, Nat.reduceLeDiff]
    simp only [wp_gSubK, wp_var, wp_mC, List.getElem?_cons_zero, List.getElem?_cons_succ, put_wr]
    try simp only [wp_ok, wp_bad, wp_bind, wS_ok, wS_bad, wS_cons, wS_nil, wS_pass, wS_break, wS_cont, wS_never, wS_set, wS_expr, wS_ret, wS_retN, wS_if, wS_asg, wS_aug, wS_for, wp_lc, wp_m1, wp_m2, wp_mN, wp_aNil, wp_aCons, wp_mC, wp_var, wp_if, wp_and, wp_or, wp_not, wp_chain, wp_mt, wp_get, wp_isi, wp_fld, wp_sl, wp_oNone, wp_oSome, wp_tBool, wp_tTru, wp_tNot, wp_tAnd, wp_tOr, wp_tAll, wp_gSlot, wp_gsNil, wp_gsCons, wp_gTup, wp_gSub, wp_iAny, wp_iSeq, wp_iTup, wp_iStr, wp_iRange1, wp_iRange2, wp_iZip, wS_fld, wp_make, seqQ, rtQ, turnQ, List.getElem?_cons_zero, List.getElem?_cons_succ, List.set_cons_zero, List.set_cons_succ, wipeD, if_true, if_false, Bool.false_eq_true, Bool.true_eq_false, reduceIte, w_add, w_iadd, w_iaddS, w_addS, w_addL, w_addT, w_sub, w_mul, w_mod, w_fdiv, w_pow, w_neg, w_lt, w_le, w_gt, w_ge, w_eqI, w_neI, w_eqT, w_neT, w_isN, w_isnotN, w_isB, w_isNB, w_len, w_lenT, w_int, w_intB, w_abs, w_min, w_max, w_tup, w_lst, w_new, w_list, w_listN, w_ix, w_ixT, w_ixD, w_inT1, w_notinT1, w_inT2, w_notinT2, w_inT3, w_notinT3, w_inT4, w_notinT4, w_inT5, w_notinT5, w_inT6, w_notinT6, w_inT7, w_notinT7, w_inT8, w_notinT8, w_sl1, at_0, at_1, at_2, at_3, at_4, at_5, hasTy_list, hasTy_str, isNonD, flatD, sEq_T, List.all_cons, List.all_nil, List.any_cons, List.any_nil, Bool.and_true, Bool.true_and, Bool.or_false, Bool.or_true, Bool.true_or, Bool.false_or, Bool.not_true, Bool.not_false, List.length_cons, List.length_nil, Nat.zero_add, Nat.reduceAdd, line_eq, true_and, and_true, String.reduceBEq, Int.reduceBEq, decide_true, decide_false, Int.reduceLT, Int.reduceLE, beq_self_eq_true, Nat.reduceLeDiff]
    simp only [wp_gSubK, wp_var, wp_mC, List.getElem?_cons_zero, List.getElem?_cons_succ, ← tx_nil, put_kept]
    exact k _ _
  | write w =>
    simp only [TO.word]
    try simp only [wp_ok, wp_bad, wp_bind, wS_ok, wS_bad, wS_cons, wS_nil, wS_pass, wS_break, wS_cont, wS_never, wS_set, wS_expr, wS_ret, wS_retN, wS_if, wS_asg, wS_aug, wS_for, wp_lc, wp_m1, wp_m2, wp_mN, wp_aNil, wp_aCons, wp_mC, wp_var, wp_if, wp_and, wp_or, wp_not, wp_chain, wp_mt, wp_get, wp_isi, wp_fld, wp_sl, wp_oNone, wp_oSome, wp_tBool, wp_tTru, wp_tNot, wp_tAnd, wp_tOr, wp_tAll, wp_gSlot, wp_gsNil, wp_gsCons, wp_gTup, wp_gSub, wp_iAny, wp_iSeq, wp_iTup, wp_iStr, wp_iRange1, wp_iRange2, wp_iZip, wS_fld, wp_make, seqQ, rtQ, turnQ, List.getElem?_cons_zero, List.getElem?_cons_succ, List.set_cons_zero, List.set_cons_succ, wipeD, if_true, if_false, Bool.false_eq_true, Bool.true_eq_false, reduceIte, w_add, w_iadd, w_iaddS, w_addS, w_addL, w_addT, w_sub, w_mul, w_mod, w_fdiv, w_pow, w_neg, w_lt, w_le, w_gt, w_ge, w_eqI, w_neI, w_eqT, w_neT, w_isN, w_isnotN, w_isB, w_isNB, w_len, w_lenT, w_int, w_intB, w_abs, w_min, w_max, w_tup, w_lst, w_new, w_list, w_listN, w_ix, w_ixT, w_ixD, w_inT1, w_notinT1, w_inT2, w_notinT2, w_inT3, w_notinT3, w_inT4, w_notinT4, w_inT5, w_notinT5, w_inT6, w_notinT6, w_inT7, w_notinT7, w_inT8, w_notinT8, w_sl1, at_0, at_1, at_2, at_3, at_4, at_5, hasTy_list, hasTy_str, isNonD, flatD, sEq_T, List.all_cons, List.all_nil, List.any_cons, List.any_nil, Bool.and_true, Bool.true_and, Bool.or_false, Bool.or_true, Bool.true_or, Bool.false_or, Bool.not_true, Bool.not_false, List.length_cons, List.length_nil, Nat.zero_add, Nat.reduceAdd, line_eq, true_and, and_true, String.reduceBEq, Int.reduceBEq, decide_true, decide_false, Int.reduceLT, Int.reduceLE, beq_self_eq_true, Nat.reduceLeDiff]
    simp only [ix_wr]
    simp only [show TO.d (.write w) = D.tup [.str (Str.ofString "write"), .str (tx w)] from rfl]
    try simp only [wp_ok, wp_bad, wp_bind, wS_ok, wS_bad, wS_cons, wS_nil, wS_pass, wS_break, wS_cont, wS_never, wS_set, wS_expr, wS_ret, wS_retN, wS_if, wS_asg, wS_aug, wS_for, wp_lc, wp_m1, wp_m2, wp_mN, wp_aNil, wp_aCons, wp_mC, wp_var, wp_if, wp_and, wp_or, wp_not, wp_chain, wp_mt, wp_get, wp_isi, wp_fld, wp_sl, wp_oNone, wp_oSome, wp_tBool, wp_tTru, wp_tNot, wp_tAnd, wp_tOr, wp_tAll, wp_gSlot, wp_gsNil, wp_gsCons, wp_gTup, wp_gSub, wp_iAny, wp_iSeq, wp_iTup, wp_iStr, wp_iRange1, wp_iRange2, wp_iZip, wS_fld, wp_make, seqQ, rtQ, turnQ, List.getElem?_cons_zero, List.getElem?_cons_succ, List.set_cons_zero, List.set_cons_succ, wipeD, if_true, if_false, Bool.false_eq_true, Bool.true_eq_false, reduceIte, w_add, w_iadd, w_iaddS, w_addS, w_addL, w_addT, w_sub, w_mul, w_mod, w_fdiv, w_pow, w_neg, w_lt, w_le, w_gt, w_ge, w_eqI, w_neI, w_eqT, w_neT, w_isN, w_isnotN, w_isB, w_isNB, w_len, w_lenT, w_int, w_intB, w_abs, w_min, w_max, w_tup, w_lst, w_new, w_list, w_listN, w_ix, w_ixT, w_ixD, w_inT1, w_notinT1, w_inT2, w_notinT2, w_inT3, w_notinT3, w_inT4, w_notinT4, w_inT5, w_notinT5, w_inT6, w_notinT6, w_inT7, w_notinT7, w_inT8, w_notinT8, w_sl1, at_0, at_1, at_2, at_3, at_4, at_5, hasTy_list, hasTy_str, isNonD, flatD, sEq_T, List.all_cons, List.all_nil, List.any_cons, List.any_nil, Bool.and_true, Bool.true_and, Bool.or_false, Bool.or_true, Bool.true_or, Bool.false_or, Bool.not_true, Bool.not_false, List.length_cons, List.length_nil, Nat.zero_add, Nat.reduceAdd, line_eq, true_and, and_true, String.reduceBEq, Int.reduceBEq, decide_true, decide_false, Int.reduceLT, Int.reduceLE, beq_self_eq_true, Nat.reduceLeDiff]
    rw [tx_app, tx_len, tx_len]
    refine ⟨by have h5 : w.length ≤ 2 := hok; omega, ?_⟩
    simp only [wp_gSubK, wp_var, wp_mC, List.getElem?_cons_zero, List.getElem?_cons_succ, put_wr]
    exact k _ _
  | raise f =>
    simp only [TO.word]
    simp only [show TO.d (.raise f) = D.tup [.str (Str.ofString "raise"), .int f] from rfl]
    try simp only [wp_ok, wp_bad, wp_bind, wS_ok, wS_bad, wS_cons, wS_nil, wS_pass, wS_break, wS_cont, wS_never, wS_set, wS_expr, wS_ret, wS_retN, wS_if, wS_asg, wS_aug, wS_for, wp_lc, wp_m1, wp_m2, wp_mN, wp_aNil, wp_aCons, wp_mC, wp_var, wp_if, wp_and, wp_or, wp_not, wp_chain, wp_mt, wp_get, wp_isi, wp_fld, wp_sl, wp_oNone, wp_oSome, wp_tBool, wp_tTru, wp_tNot, wp_tAnd, wp_tOr, wp_tAll, wp_gSlot, wp_gsNil, wp_gsCons, wp_gTup, wp_gSub, wp_iAny, wp_iSeq, wp_iTup, wp_iStr, wp_iRange1, wp_iRange2, wp_iZip, wS_fld, wp_make, seqQ, rtQ, turnQ, List.getElem?_cons_zero, List.getElem?_cons_succ, List.set_cons_zero, List.set_cons_succ, wipeD, if_true, if_false, Bool.false_eq_true, Bool.true_eq_false, reduceIte, w_add, w_iadd, w_iaddS, w_addS, w_addL, w_addT, w_sub, w_mul, w_mod, w_fdiv, w_pow, w_neg, w_lt, w_le, w_gt, w_ge, w_eqI, w_neI, w_eqT, w_neT, w_isN, w_isnotN, w_isB, w_isNB, w_len, w_lenT, w_int, w_intB, w_abs, w_min, w_max, w_tup, w_lst, w_new, w_list, w_listN, w_ix, w_ixT, w_ixD, w_inT1, w_notinT1, w_inT2, w_notinT2, w_inT3, w_notinT3, w_inT4, w_notinT4, w_inT5, w_notinT5, w_inT6, w_notinT6, w_inT7, w_notinT7, w_inT8, w_notinT8, w_sl1, at_0, at_1, at_2, at_3, at_4, at_5, hasTy_list, hasTy_str, isNonD, flatD, sEq_T, List.all_cons, List.all_nil, List.any_cons, List.any_nil, Bool.and_true, Bool.true_and, Bool.or_false, Bool.or_true, Bool.true_or, Bool.false_or, Bool.not_true, Bool.not_false, List.length_cons, List.length_nil, Nat.zero_add, Nat.reduceAdd, line_eq, true_and, and_true, String.reduceBEq, Int.reduceBEq, decide_true, decide_false, Int.reduceLT, Int.reduceLE, beq_self_eq_true, Nat.reduceLeDiff]
    simp only [ix_flags]
    try simp only [wp_ok, wp_bad, wp_bind, wS_ok, wS_bad, wS_cons, wS_nil, wS_pass, wS_break, wS_cont, wS_never, wS_set, wS_expr, wS_ret, wS_retN, wS_if, wS_asg, wS_aug, wS_for, wp_lc, wp_m1, wp_m2, wp_mN, wp_aNil, wp_aCons, wp_mC, wp_var, wp_if, wp_and, wp_or, wp_not, wp_chain, wp_mt, wp_get, wp_isi, wp_fld, wp_sl, wp_oNone, wp_oSome, wp_tBool, wp_tTru, wp_tNot, wp_tAnd, wp_tOr, wp_tAll, wp_gSlot, wp_gsNil, wp_gsCons, wp_gTup, wp_gSub, wp_iAny, wp_iSeq, wp_iTup, wp_iStr, wp_iRange1, wp_iRange2, wp_iZip, wS_fld, wp_make, seqQ, rtQ, turnQ, List.getElem?_cons_zero, List.getElem?_cons_succ, List.set_cons_zero, List.set_cons_succ, wipeD, if_true, if_false, Bool.false_eq_true, Bool.true_eq_false, reduceIte, w_add, w_iadd, w_iaddS, w_addS, w_addL, w_addT, w_sub, w_mul, w_mod, w_fdiv, w_pow, w_neg, w_lt, w_le, w_gt, w_ge, w_eqI, w_neI, w_eqT, w_neT, w_isN, w_isnotN, w_isB, w_isNB, w_len, w_lenT, w_int, w_intB, w_abs, w_min, w_max, w_tup, w_lst, w_new, w_list, w_listN, w_ix, w_ixT, w_ixD, w_inT1, w_notinT1, w_inT2, w_notinT2, w_inT3, w_notinT3, w_inT4, w_notinT4, w_inT5, w_notinT5, w_inT6, w_notinT6, w_inT7, w_notinT7, w_inT8, w_notinT8, w_sl1, at_0, at_1, at_2, at_3, at_4, at_5, hasTy_list, hasTy_str, isNonD, flatD, sEq_T, List.all_cons, List.all_nil, List.any_cons, List.any_nil, Bool.and_true, Bool.true_and, Bool.or_false, Bool.or_true, Bool.true_or, Bool.false_or, Bool.not_true, Bool.not_false, List.length_cons, List.length_nil, Nat.zero_add, Nat.reduceAdd, line_eq, true_and, and_true, String.reduceBEq, Int.reduceBEq, decide_true, decide_false, Int.reduceLT, Int.reduceLE, beq_self_eq_true, Nat.reduceLeDiff]
    simp only [wflag_st h hok]
    exact k _ _
  | lower f =>
    simp only [TO.word]
    simp only [show TO.d (.lower f) = D.tup [.str (Str.ofString "lower"), .int f] from rfl]
    try simp only [wp_ok, wp_bad, wp_bind, wS_ok, wS_bad, wS_cons, wS_nil, wS_pass, wS_break, wS_cont, wS_never, wS_set, wS_expr, wS_ret, wS_retN, wS_if, wS_asg, wS_aug, wS_for, wp_lc, wp_m1, wp_m2, wp_mN, wp_aNil, wp_aCons, wp_mC, wp_var, wp_if, wp_and, wp_or, wp_not, wp_chain, wp_mt, wp_get, wp_isi, wp_fld, wp_sl, wp_oNone, wp_oSome, wp_tBool, wp_tTru, wp_tNot, wp_tAnd, wp_tOr, wp_tAll, wp_gSlot, wp_gsNil, wp_gsCons, wp_gTup, wp_gSub, wp_iAny, wp_iSeq, wp_iTup, wp_iStr, wp_iRange1, wp_iRange2, wp_iZip, wS_fld, wp_make, seqQ, rtQ, turnQ, List.getElem?_cons_zero, List.getElem?_cons_succ, List.set_cons_zero, List.set_cons_succ, wipeD, if_true, if_false, Bool.false_eq_true, Bool.true_eq_false, reduceIte, w_add, w_iadd, w_iaddS, w_addS, w_addL, w_addT, w_sub, w_mul, w_mod, w_fdiv, w_pow, w_neg, w_lt, w_le, w_gt, w_ge, w_eqI, w_neI, w_eqT, w_neT, w_isN, w_isnotN, w_isB, w_isNB, w_len, w_lenT, w_int, w_intB, w_abs, w_min, w_max, w_tup, w_lst, w_new, w_list, w_listN, w_ix, w_ixT, w_ixD, w_inT1, w_notinT1, w_inT2, w_notinT2, w_inT3, w_notinT3, w_inT4, w_notinT4, w_inT5, w_notinT5, w_inT6, w_notinT6, w_inT7, w_notinT7, w_inT8, w_notinT8, w_sl1, at_0, at_1, at_2, at_3, at_4, at_5, hasTy_list, hasTy_str, isNonD, flatD, sEq_T, List.all_cons, List.all_nil, List.any_cons, List.any_nil, Bool.and_true, Bool.true_and, Bool.or_false, Bool.or_true, Bool.true_or, Bool.false_or, Bool.not_true, Bool.not_false, List.length_cons, List.length_nil, Nat.zero_add, Nat.reduceAdd, line_eq, true_and, and_true, String.reduceBEq, Int.reduceBEq, decide_true, decide_false, Int.reduceLT, Int.reduceLE, beq_self_eq_true, Nat.reduceLeDiff]
    simp only [ix_flags]
    try simp only [wp_ok, wp_bad, wp_bind, wS_ok, wS_bad, wS_cons, wS_nil, wS_pass, wS_break, wS_cont, wS_never, wS_set, wS_expr, wS_ret, wS_retN, wS_if, wS_asg, wS_aug, wS_for, wp_lc, wp_m1, wp_m2, wp_mN, wp_aNil, wp_aCons, wp_mC, wp_var, wp_if, wp_and, wp_or, wp_not, wp_chain, wp_mt, wp_get, wp_isi, wp_fld, wp_sl, wp_oNone, wp_oSome, wp_tBool, wp_tTru, wp_tNot, wp_tAnd, wp_tOr, wp_tAll, wp_gSlot, wp_gsNil, wp_gsCons, wp_gTup, wp_gSub, wp_iAny, wp_iSeq, wp_iTup, wp_iStr, wp_iRange1, wp_iRange2, wp_iZip, wS_fld, wp_make, seqQ, rtQ, turnQ, List.getElem?_cons_zero, List.getElem?_cons_succ, List.set_cons_zero, List.set_cons_succ, wipeD, if_true, if_false, Bool.false_eq_true, Bool.true_eq_false, reduceIte, w_add, w_iadd, w_iaddS, w_addS, w_addL, w_addT, w_sub, w_mul, w_mod, w_fdiv, w_pow, w_neg, w_lt, w_le, w_gt, w_ge, w_eqI, w_neI, w_eqT, w_neT, w_isN, w_isnotN, w_isB, w_isNB, w_len, w_lenT, w_int, w_intB, w_abs, w_min, w_max, w_tup, w_lst, w_new, w_list, w_listN, w_ix, w_ixT, w_ixD, w_inT1, w_notinT1, w_inT2, w_notinT2, w_inT3, w_notinT3, w_inT4, w_notinT4, w_inT5, w_notinT5, w_inT6, w_notinT6, w_inT7, w_notinT7, w_inT8, w_notinT8, w_sl1, at_0, at_1, at_2, at_3, at_4, at_5, hasTy_list, hasTy_str, isNonD, flatD, sEq_T, List.all_cons, List.all_nil, List.any_cons, List.any_nil, Bool.and_true, Bool.true_and, Bool.or_false, Bool.or_true, Bool.true_or, Bool.false_or, Bool.not_true, Bool.not_false, List.length_cons, List.length_nil, Nat.zero_add, Nat.reduceAdd, line_eq, true_and, and_true, String.reduceBEq, Int.reduceBEq, decide_true, decide_false, Int.reduceLT, Int.reduceLE, beq_self_eq_true, Nat.reduceLeDiff]
    simp only [wflag_st h hok]
    exact k _ _
  | skip c =>
    simp only [TO.word]
    simp only [show TO.d (.skip c) = D.tup [.str (Str.ofString "skip"), .int c] from rfl]
    try simp only [wp_ok, wp_bad, wp_bind, wS_ok, wS_bad, wS_cons, wS_nil, wS_pass, wS_break, wS_cont, wS_never, wS_set, wS_expr, wS_ret, wS_retN, wS_if, wS_asg, wS_aug, wS_for, wp_lc, wp_m1, wp_m2, wp_mN, wp_aNil, wp_aCons, wp_mC, wp_var, wp_if, wp_and, wp_or, wp_not, wp_chain, wp_mt, wp_get, wp_isi, wp_fld, wp_sl, wp_oNone, wp_oSome, wp_tBool, wp_tTru, wp_tNot, wp_tAnd, wp_tOr, wp_tAll, wp_gSlot, wp_gsNil, wp_gsCons, wp_gTup, wp_gSub, wp_iAny, wp_iSeq, wp_iTup, wp_iStr, wp_iRange1, wp_iRange2, wp_iZip, wS_fld, wp_make, seqQ, rtQ, turnQ, List.getElem?_cons_zero, List.getElem?_cons_succ, List.set_cons_zero, List.set_cons_succ, wipeD, if_true, if_false, Bool.false_eq_true, Bool.true_eq_false, reduceIte, w_add, w_iadd, w_iaddS, w_addS, w_addL, w_addT, w_sub, w_mul, w_mod, w_fdiv, w_pow, w_neg, w_lt, w_le, w_gt, w_ge, w_eqI, w_neI, w_eqT, w_neT, w_isN, w_isnotN, w_isB, w_isNB, w_len, w_lenT, w_int, w_intB, w_abs, w_min, w_max, w_tup, w_lst, w_new, w_list, w_listN, w_ix, w_ixT, w_ixD, w_inT1, w_notinT1, w_inT2, w_notinT2, w_inT3, w_notinT3, w_inT4, w_notinT4, w_inT5, w_notinT5, w_inT6, w_notinT6, w_inT7, w_notinT7, w_inT8, w_notinT8, w_sl1, at_0, at_1, at_2, at_3, at_4, at_5, hasTy_list, hasTy_str, isNonD, flatD, sEq_T, List.all_cons, List.all_nil, List.any_cons, List.any_nil, Bool.and_true, Bool.true_and, Bool.or_false, Bool.or_true, Bool.true_or, Bool.false_or, Bool.not_true, Bool.not_false, List.length_cons, List.length_nil, Nat.zero_add, Nat.reduceAdd, line_eq, true_and, and_true, String.reduceBEq, Int.reduceBEq, decide_true, decide_false, Int.reduceLT, Int.reduceLE, beq_self_eq_true, Nat.reduceLeDiff]
    rw [ek c hok.1]
    exact k _ _
  | sign c j =>
    simp only [TO.word]
    simp only [show TO.d (.sign c j) = D.tup [.str (Str.ofString "sign"), .str (tx [c]), .int j] from rfl]
    try simp only [wp_ok, wp_bad, wp_bind, wS_ok, wS_bad, wS_cons, wS_nil, wS_pass, wS_break, wS_cont, wS_never, wS_set, wS_expr, wS_ret, wS_retN, wS_if, wS_asg, wS_aug, wS_for, wp_lc, wp_m1, wp_m2, wp_mN, wp_aNil, wp_aCons, wp_mC, wp_var, wp_if, wp_and, wp_or, wp_not, wp_chain, wp_mt, wp_get, wp_isi, wp_fld, wp_sl, wp_oNone, wp_oSome, wp_tBool, wp_tTru, wp_tNot, wp_tAnd, wp_tOr, wp_tAll, wp_gSlot, wp_gsNil, wp_gsCons, wp_gTup, wp_gSub, wp_iAny, wp_iSeq, wp_iTup, wp_iStr, wp_iRange1, wp_iRange2, wp_iZip, wS_fld, wp_make, seqQ, rtQ, turnQ, List.getElem?_cons_zero, List.getElem?_cons_succ, List.set_cons_zero, List.set_cons_succ, wipeD, if_true, if_false, Bool.false_eq_true, Bool.true_eq_false, reduceIte, w_add, w_iadd, w_iaddS, w_addS, w_addL, w_addT, w_sub, w_mul, w_mod, w_fdiv, w_pow, w_neg, w_lt, w_le, w_gt, w_ge, w_eqI, w_neI, w_eqT, w_neT, w_isN, w_isnotN, w_isB, w_isNB, w_len, w_lenT, w_int, w_intB, w_abs, w_min, w_max, w_tup, w_lst, w_new, w_list, w_listN, w_ix, w_ixT, w_ixD, w_inT1, w_notinT1, w_inT2, w_notinT2, w_inT3, w_notinT3, w_inT4, w_notinT4, w_inT5, w_notinT5, w_inT6, w_notinT6, w_inT7, w_notinT7, w_inT8, w_notinT8, w_sl1, at_0, at_1, at_2, at_3, at_4, at_5, hasTy_list, hasTy_str, isNonD, flatD, sEq_T, List.all_cons, List.all_nil, List.any_cons, List.any_nil, Bool.and_true, Bool.true_and, Bool.or_false, Bool.or_true, Bool.true_or, Bool.false_or, Bool.not_true, Bool.not_false, List.length_cons, List.length_nil, Nat.zero_add, Nat.reduceAdd, line_eq, true_and, and_true, String.reduceBEq, Int.reduceBEq, decide_true, decide_false, Int.reduceLT, Int.reduceLE, beq_self_eq_true, Nat.reduceLeDiff]
    simp only [x_ne]
    simp only [TO.to] at k
    simp only [w_intB, w_mul, w_add]
    refine ⟨bits j hok.2.1.1 hok.2.1.2 _, ?_⟩
    rw [em j hok.2.1.1]
    by_cases hc : g = [c]
    · rw [if_pos hc] at k
      simp only [hc, decide_true, Bool.not_true, Bool.false_eq_true, if_false]
      subst hc
      exact k _ _
    · rw [if_neg hc] at k
      simp only [decide_eq_false hc, Bool.not_false, if_true]
      exact k _ _
  | kept c j =>
    simp only [TO.word]
    simp only [show TO.d (.kept c j) = D.tup [.str (Str.ofString "kept"), .str (tx [c]), .int j] from rfl]
    try simp only [wp_ok, wp_bad, wp_bind, wS_ok, wS_bad, wS_cons, wS_nil, wS_pass, wS_break, wS_cont, wS_never, wS_set, wS_expr, wS_ret, wS_retN, wS_if, wS_asg, wS_aug, wS_for, wp_lc, wp_m1, wp_m2, wp_mN, wp_aNil, wp_aCons, wp_mC, wp_var, wp_if, wp_and, wp_or, wp_not, wp_chain, wp_mt, wp_get, wp_isi, wp_fld, wp_sl, wp_oNone, wp_oSome, wp_tBool, wp_tTru, wp_tNot, wp_tAnd, wp_tOr, wp_tAll, wp_gSlot, wp_gsNil, wp_gsCons, wp_gTup, wp_gSub, wp_iAny, wp_iSeq, wp_iTup, wp_iStr, wp_iRange1, wp_iRange2, wp_iZip, wS_fld, wp_make, seqQ, rtQ, turnQ, List.getElem?_cons_zero, List.getElem?_cons_succ, List.set_cons_zero, List.set_cons_succ, wipeD, if_true, if_false, Bool.false_eq_true, Bool.true_eq_false, reduceIte, w_add, w_iadd, w_iaddS, w_addS, w_addL, w_addT, w_sub, w_mul, w_mod, w_fdiv, w_pow, w_neg, w_lt, w_le, w_gt, w_ge, w_eqI, w_neI, w_eqT, w_neT, w_isN, w_isnotN, w_isB, w_isNB, w_len, w_lenT, w_int, w_intB, w_abs, w_min, w_max, w_tup, w_lst, w_new, w_list, w_listN, w_ix, w_ixT, w_ixD, w_inT1, w_notinT1, w_inT2, w_notinT2, w_inT3, w_notinT3, w_inT4, w_notinT4, w_inT5, w_notinT5, w_inT6, w_notinT6, w_inT7, w_notinT7, w_inT8, w_notinT8, w_sl1, at_0, at_1, at_2, at_3, at_4, at_5, hasTy_list, hasTy_str, isNonD, flatD, sEq_T, List.all_cons, List.all_nil, List.any_cons, List.any_nil, Bool.and_true, Bool.true_and, Bool.or_false, Bool.or_true, Bool.true_or, Bool.false_or, Bool.not_true, Bool.not_false, List.length_cons, List.length_nil, Nat.zero_add, Nat.reduceAdd, line_eq, true_and, and_true, String.reduceBEq, Int.reduceBEq, decide_true, decide_false, Int.reduceLT, Int.reduceLE, beq_self_eq_true, Nat.reduceLeDiff]
    simp only [ix_kept, x_ne]
    simp only [TO.to] at k
    simp only [w_intB, w_mul, w_add]
    refine ⟨bits j hok.2.1 hok.2.2 _, ?_⟩
    rw [em j hok.2.1]
    by_cases hc : st.kept = [c]
    · rw [if_pos hc] at k
      simp only [decide_eq_true hc, Bool.not_true, Bool.false_eq_true, if_false]
      exact k _ _
    · rw [if_neg hc] at k
      simp only [decide_eq_false hc, Bool.not_false, if_true]
      exact k _ _
  | up f j =>
    simp only [TO.word]
    simp only [show TO.d (.up f j) = D.tup [.str (Str.ofString "up"), .int f, .int j] from rfl]
    try simp only [wp_ok, wp_bad, wp_bind, wS_ok, wS_bad, wS_cons, wS_nil, wS_pass, wS_break, wS_cont, wS_never, wS_set, wS_expr, wS_ret, wS_retN, wS_if, wS_asg, wS_aug, wS_for, wp_lc, wp_m1, wp_m2, wp_mN, wp_aNil, wp_aCons, wp_mC, wp_var, wp_if, wp_and, wp_or, wp_not, wp_chain, wp_mt, wp_get, wp_isi, wp_fld, wp_sl, wp_oNone, wp_oSome, wp_tBool, wp_tTru, wp_tNot, wp_tAnd, wp_tOr, wp_tAll, wp_gSlot, wp_gsNil, wp_gsCons, wp_gTup, wp_gSub, wp_iAny, wp_iSeq, wp_iTup, wp_iStr, wp_iRange1, wp_iRange2, wp_iZip, wS_fld, wp_make, seqQ, rtQ, turnQ, List.getElem?_cons_zero, List.getElem?_cons_succ, List.set_cons_zero, List.set_cons_succ, wipeD, if_true, if_false, Bool.false_eq_true, Bool.true_eq_false, reduceIte, w_add, w_iadd, w_iaddS, w_addS, w_addL, w_addT, w_sub, w_mul, w_mod, w_fdiv, w_pow, w_neg, w_lt, w_le, w_gt, w_ge, w_eqI, w_neI, w_eqT, w_neT, w_isN, w_isnotN, w_isB, w_isNB, w_len, w_lenT, w_int, w_intB, w_abs, w_min, w_max, w_tup, w_lst, w_new, w_list, w_listN, w_ix, w_ixT, w_ixD, w_inT1, w_notinT1, w_inT2, w_notinT2, w_inT3, w_notinT3, w_inT4, w_notinT4, w_inT5, w_notinT5, w_inT6, w_notinT6, w_inT7, w_notinT7, w_inT8, w_notinT8, w_sl1, at_0, at_1, at_2, at_3, at_4, at_5, hasTy_list, hasTy_str, isNonD, flatD, sEq_T, List.all_cons, List.all_nil, List.any_cons, List.any_nil, Bool.and_true, Bool.true_and, Bool.or_false, Bool.or_true, Bool.true_or, Bool.false_or, Bool.not_true, Bool.not_false, List.length_cons, List.length_nil, Nat.zero_add, Nat.reduceAdd, line_eq, true_and, and_true, String.reduceBEq, Int.reduceBEq, decide_true, decide_false, Int.reduceLT, Int.reduceLE, beq_self_eq_true, Nat.reduceLeDiff]
    simp only [ix_flags, wflag_ix h hok.1]
    simp only [TO.to] at k
    try simp only [wp_ok, wp_bad, wp_bind, wS_ok, wS_bad, wS_cons, wS_nil, wS_pass, wS_break, wS_cont, wS_never, wS_set, wS_expr, wS_ret, wS_retN, wS_if, wS_asg, wS_aug, wS_for, wp_lc, wp_m1, wp_m2, wp_mN, wp_aNil, wp_aCons, wp_mC, wp_var, wp_if, wp_and, wp_or, wp_not, wp_chain, wp_mt, wp_get, wp_isi, wp_fld, wp_sl, wp_oNone, wp_oSome, wp_tBool, wp_tTru, wp_tNot, wp_tAnd, wp_tOr, wp_tAll, wp_gSlot, wp_gsNil, wp_gsCons, wp_gTup, wp_gSub, wp_iAny, wp_iSeq, wp_iTup, wp_iStr, wp_iRange1, wp_iRange2, wp_iZip, wS_fld, wp_make, seqQ, rtQ, turnQ, List.getElem?_cons_zero, List.getElem?_cons_succ, List.set_cons_zero, List.set_cons_succ, wipeD, if_true, if_false, Bool.false_eq_true, Bool.true_eq_false, reduceIte, w_add, w_iadd, w_iaddS, w_addS, w_addL, w_addT, w_sub, w_mul, w_mod, w_fdiv, w_pow, w_neg, w_lt, w_le, w_gt, w_ge, w_eqI, w_neI, w_eqT, w_neT, w_isN, w_isnotN, w_isB, w_isNB, w_len, w_lenT, w_int, w_intB, w_abs, w_min, w_max, w_tup, w_lst, w_new, w_list, w_listN, w_ix, w_ixT, w_ixD, w_inT1, w_notinT1, w_inT2, w_notinT2, w_inT3, w_notinT3, w_inT4, w_notinT4, w_inT5, w_notinT5, w_inT6, w_notinT6, w_inT7, w_notinT7, w_inT8, w_notinT8, w_sl1, at_0, at_1, at_2, at_3, at_4, at_5, hasTy_list, hasTy_str, isNonD, flatD, sEq_T, List.all_cons, List.all_nil, List.any_cons, List.any_nil, Bool.and_true, Bool.true_and, Bool.or_false, Bool.or_true, Bool.true_or, Bool.false_or, Bool.not_true, Bool.not_false, List.length_cons, List.length_nil, Nat.zero_add, Nat.reduceAdd, line_eq, true_and, and_true, String.reduceBEq, Int.reduceBEq, decide_true, decide_false, Int.reduceLT, Int.reduceLE, beq_self_eq_true, Nat.reduceLeDiff]
    simp only [String.reduceBEq, wb_ne, w_intB, w_mul, w_add]
    refine ⟨bits j hok.2.1 hok.2.2 _, ?_⟩
    rw [em j hok.2.1]
    cases hf : st.flag f with
    | true =>
      rw [hf, if_pos rfl] at k
      exact k _ _
    | false =>
      rw [hf, if_neg (by decide)] at k
      exact k _ _
  | down f j =>
    simp only [TO.word]
    simp only [show TO.d (.down f j) = D.tup [.str (Str.ofString "down"), .int f, .int j] from rfl]
    try simp only [wp_ok, wp_bad, wp_bind, wS_ok, wS_bad, wS_cons, wS_nil, wS_pass, wS_break, wS_cont, wS_never, wS_set, wS_expr, wS_ret, wS_retN, wS_if, wS_asg, wS_aug, wS_for, wp_lc, wp_m1, wp_m2, wp_mN, wp_aNil, wp_aCons, wp_mC, wp_var, wp_if, wp_and, wp_or, wp_not, wp_chain, wp_mt, wp_get, wp_isi, wp_fld, wp_sl, wp_oNone, wp_oSome, wp_tBool, wp_tTru, wp_tNot, wp_tAnd, wp_tOr, wp_tAll, wp_gSlot, wp_gsNil, wp_gsCons, wp_gTup, wp_gSub, wp_iAny, wp_iSeq, wp_iTup, wp_iStr, wp_iRange1, wp_iRange2, wp_iZip, wS_fld, wp_make, seqQ, rtQ, turnQ, List.getElem?_cons_zero, List.getElem?_cons_succ, List.set_cons_zero, List.set_cons_succ, wipeD, if_true, if_false, Bool.false_eq_true, Bool.true_eq_false, reduceIte, w_add, w_iadd, w_iaddS, w_addS, w_addL, w_addT, w_sub, w_mul, w_mod, w_fdiv, w_pow, w_neg, w_lt, w_le, w_gt, w_ge, w_eqI, w_neI, w_eqT, w_neT, w_isN, w_isnotN, w_isB, w_isNB, w_len, w_lenT, w_int, w_intB, w_abs, w_min, w_max, w_tup, w_lst, w_new, w_list, w_listN, w_ix, w_ixT, w_ixD, w_inT1, w_notinT1, w_inT2, w_notinT2, w_inT3, w_notinT3, w_inT4, w_notinT4, w_inT5, w_notinT5, w_inT6, w_notinT6, w_inT7, w_notinT7, w_inT8, w_notinT8, w_sl1, at_0, at_1, at_2, at_3, at_4, at_5, hasTy_list, hasTy_str, isNonD, flatD, sEq_T, List.all_cons, List.all_nil, List.any_cons, List.any_nil, Bool.and_true, Bool.true_and, Bool.or_false, Bool.or_true, Bool.true_or, Bool.false_or, Bool.not_true, Bool.not_false, List.length_cons, List.length_nil, Nat.zero_add, Nat.reduceAdd, line_eq, true_and, and_true, String.reduceBEq, Int.reduceBEq, decide_true, decide_false, Int.reduceLT, Int.reduceLE, beq_self_eq_true, Nat.reduceLeDiff]
    simp only [ix_flags, wflag_ix h hok.1]
    simp only [TO.to] at k
    try simp only [wp_ok, wp_bad, wp_bind, wS_ok, wS_bad, wS_cons, wS_nil, wS_pass, wS_break, wS_cont, wS_never, wS_set, wS_expr, wS_ret, wS_retN, wS_if, wS_asg, wS_aug, wS_for, wp_lc, wp_m1, wp_m2, wp_mN, wp_aNil, wp_aCons, wp_mC, wp_var, wp_if, wp_and, wp_or, wp_not, wp_chain, wp_mt, wp_get, wp_isi, wp_fld, wp_sl, wp_oNone, wp_oSome, wp_tBool, wp_tTru, wp_tNot, wp_tAnd, wp_tOr, wp_tAll, wp_gSlot, wp_gsNil, wp_gsCons, wp_gTup, wp_gSub, wp_iAny, wp_iSeq, wp_iTup, wp_iStr, wp_iRange1, wp_iRange2, wp_iZip, wS_fld, wp_make, seqQ, rtQ, turnQ, List.getElem?_cons_zero, List.getElem?_cons_succ, List.set_cons_zero, List.set_cons_succ, wipeD, if_true, if_false, Bool.false_eq_true, Bool.true_eq_false, reduceIte, w_add, w_iadd, w_iaddS, w_addS, w_addL, w_addT, w_sub, w_mul, w_mod, w_fdiv, w_pow, w_neg, w_lt, w_le, w_gt, w_ge, w_eqI, w_neI, w_eqT, w_neT, w_isN, w_isnotN, w_isB, w_isNB, w_len, w_lenT, w_int, w_intB, w_abs, w_min, w_max, w_tup, w_lst, w_new, w_list, w_listN, w_ix, w_ixT, w_ixD, w_inT1, w_notinT1, w_inT2, w_notinT2, w_inT3, w_notinT3, w_inT4, w_notinT4, w_inT5, w_notinT5, w_inT6, w_notinT6, w_inT7, w_notinT7, w_inT8, w_notinT8, w_sl1, at_0, at_1, at_2, at_3, at_4, at_5, hasTy_list, hasTy_str, isNonD, flatD, sEq_T, List.all_cons, List.all_nil, List.any_cons, List.any_nil, Bool.and_true, Bool.true_and, Bool.or_false, Bool.or_true, Bool.true_or, Bool.false_or, Bool.not_true, Bool.not_false, List.length_cons, List.length_nil, Nat.zero_add, Nat.reduceAdd, line_eq, true_and, and_true, String.reduceBEq, Int.reduceBEq, decide_true, decide_false, Int.reduceLT, Int.reduceLE, beq_self_eq_true, Nat.reduceLeDiff]
    simp only [String.reduceBEq, wb_ne, w_intB, w_mul, w_add]
    refine ⟨bits j hok.2.1 hok.2.2 _, ?_⟩
    rw [em j hok.2.1]
    cases hf : st.flag f with
    | true =>
      rw [hf, if_pos rfl] at k
      exact k _ _
    | false =>
      rw [hf, if_neg (by decide)] at k
      exact k _ _
section
variable {A1 A2 A3 A4 : O} {st : Sta} {g l : List Char} {n : Nat}
theorem part_wp {os : List TO} {b : Bool} {Q : D → S → Prop} (hg : Good l b os) (hs : g.length ≤ 1) (hn : n + 62 ≤ 1000000) (hsk : Sk n st)
    (k : Q (.bl (run os g os.length 0 st).1) (wdS A1 A2 A3 A4 (run os g os.length 0 st).2)) :
    wp (f_law_part [.lst (os.map TO.d), .ref 4, .str (tx g)] (wdS A1 A2 A3 A4 st)) Q := by
  refine (wp_fn (n := 3) (tot := 7) (m := m_law_part) rfl).mpr ?_
  show wS (m_law_part [some (.lst (os.map TO.d)), some (.ref 4), some (.str (tx g)), none, none, none, none] _) _
  have hlen : (os.map TO.d).length = os.length := List.length_map _
  have h31 := hg.len
  show wS (ssCons (sSet 3 (mC (.int 0))) (ssCons (sFor (iRange1 (mN dLen (aCons (mVar 0) aNil))) (gSlot 4) pb) _) _ _) _
  simp only [wS_cons, wS_set, wp_mC, List.set_cons_succ, List.set_cons_zero, seqQ]
  rw [wS_for, wp_iRange1, wp_mN, wp_aCons, wp_var]
  simp only [List.getElem?_cons_zero, wp_aNil, w_len, hlen]
  refine ⟨⟨by omega, by omega⟩, ?_⟩
  let E := run os g os.length 0 st
  let I : List D → Rho → S → Prop := fun xs ρ s => ∃ (at_ m : Nat) (st' : Sta) (v4 v5 v6 : Option D),
    ρ = [some (.lst (os.map TO.d)), some (.ref 4), some (.str (tx g)), some (.int at_), v4, v5, v6] ∧ s = wdS A1 A2 A3 A4 st' ∧ os.length ≤ at_ + xs.length ∧
    Sk m st' ∧ m + 2 * xs.length ≤ n + 2 * os.length ∧ ∀ f, os.length ≤ at_ + f → run os g f at_ st' = E
  refine wS_forN I ?_ ?_ _ _ _ ⟨0, n, st, none, none, none, rfl, rfl, by unfold rng; simp, hsk, by unfold rng; simp, ?_⟩
  · rintro ρ s ⟨at_, m, st', v4, v5, v6, rfl, rfl, hl, hb, hm, he⟩
    have e0 := he 0 hl
    rw [run] at e0
    have kk := k
    rw [show run os g os.length 0 st = (true, st') from e0.symm] at kk
    simp only [wp_ok, wp_bad, wp_bind, wS_ok, wS_bad, wS_cons, wS_nil, wS_pass, wS_break, wS_cont, wS_never, wS_set, wS_expr, wS_ret, wS_retN, wS_if, wS_asg, wS_aug, wS_for, wp_lc, wp_m1, wp_m2, wp_mN, wp_aNil, wp_aCons, wp_mC, wp_var, wp_if, wp_and, wp_or, wp_not, wp_chain, wp_mt, wp_get, wp_isi, wp_fld, wp_sl, wp_oNone, wp_oSome, wp_tBool, wp_tTru, wp_tNot, wp_tAnd, wp_tOr, wp_tAll, wp_gSlot, wp_gsNil, wp_gsCons, wp_gTup, wp_gSub, wp_iAny, wp_iSeq, wp_iTup, wp_iStr, wp_iRange1, wp_iRange2, wp_iZip, wS_fld, wp_make, seqQ, rtQ, turnQ, List.getElem?_cons_zero, List.getElem?_cons_succ, List.set_cons_zero, List.set_cons_succ, wipeD, if_true, if_false, Bool.false_eq_true, Bool.true_eq_false, reduceIte, w_add, w_iadd, w_iaddS, w_addS, w_addL, w_addT, w_sub, w_mul, w_mod, w_fdiv, w_pow, w_neg, w_lt, w_le, w_gt, w_ge, w_eqI, w_neI, w_eqT, w_neT, w_isN, w_isnotN, w_isB, w_isNB, w_len, w_lenT, w_int, w_intB, w_abs, w_min, w_max, w_tup, w_lst, w_new, w_list, w_listN, w_ix, w_ixT, w_ixD, w_inT1, w_notinT1, w_inT2, w_notinT2, w_inT3, w_notinT3, w_inT4, w_notinT4, w_inT5, w_notinT5, w_inT6, w_notinT6, w_inT7, w_notinT7, w_inT8, w_notinT8, w_sl1, at_0, at_1, at_2, at_3, at_4, at_5, hasTy_list, hasTy_str, isNonD, flatD, sEq_T, List.all_cons, List.all_nil, List.any_cons, List.any_nil, Bool.and_true, Bool.true_and, Bool.or_false, Bool.or_true, Bool.true_or, Bool.false_or, Bool.not_true, Bool.not_false, List.length_cons, List.length_nil, Nat.zero_add, Nat.reduceAdd, line_eq, true_and, and_true, String.reduceBEq, Int.reduceBEq, decide_true, decide_false, Int.reduceLT, Int.reduceLE, beq_self_eq_true, Nat.reduceLeDiff]
    exact kk
  · rintro x xs ρ s ⟨at_, m, st', v4, v5, v6, rfl, rfl, hl, hb, hm, he⟩
    simp only [List.length_cons] at hl hm
    rw [wp_gSlot]
    simp only [List.set_cons_succ, List.set_cons_zero]
    cases ho : os[at_]? with
    | none =>
      have hle : os.length ≤ at_ := List.getElem?_eq_none_iff.mp ho
      have e0 := he 0 (by omega)
      rw [run] at e0
      have kk := k
      rw [show run os g os.length 0 st = (true, st') from e0.symm] at kk
      have hge : decide ((at_ : Int) ≥ (os.length : Nat)) = true := decide_eq_true (by omega)
      unfold pb
      simp only [wp_ok, wp_bad, wp_bind, wS_ok, wS_bad, wS_cons, wS_nil, wS_pass, wS_break, wS_cont, wS_never, wS_set, wS_expr, wS_ret, wS_retN, wS_if, wS_asg, wS_aug, wS_for, wp_lc, wp_m1, wp_m2, wp_mN, wp_aNil, wp_aCons, wp_mC, wp_var, wp_if, wp_and, wp_or, wp_not, wp_chain, wp_mt, wp_get, wp_isi, wp_fld, wp_sl, wp_oNone, wp_oSome, wp_tBool, wp_tTru, wp_tNot, wp_tAnd, wp_tOr, wp_tAll, wp_gSlot, wp_gsNil, wp_gsCons, wp_gTup, wp_gSub, wp_iAny, wp_iSeq, wp_iTup, wp_iStr, wp_iRange1, wp_iRange2, wp_iZip, wS_fld, wp_make, seqQ, rtQ, turnQ, List.getElem?_cons_zero, List.getElem?_cons_succ, List.set_cons_zero, List.set_cons_succ, wipeD, if_true, if_false, Bool.false_eq_true, Bool.true_eq_false, reduceIte, w_add, w_iadd, w_iaddS, w_addS, w_addL, w_addT, w_sub, w_mul, w_mod, w_fdiv, w_pow, w_neg, w_lt, w_le, w_gt, w_ge, w_eqI, w_neI, w_eqT, w_neT, w_isN, w_isnotN, w_isB, w_isNB, w_len, w_lenT, w_int, w_intB, w_abs, w_min, w_max, w_tup, w_lst, w_new, w_list, w_listN, w_ix, w_ixT, w_ixD, w_inT1, w_notinT1, w_inT2, w_notinT2, w_inT3, w_notinT3, w_inT4, w_notinT4, w_inT5, w_notinT5, w_inT6, w_notinT6, w_inT7, w_notinT7, w_inT8, w_notinT8, w_sl1, at_0, at_1, at_2, at_3, at_4, at_5, hasTy_list, hasTy_str, isNonD, flatD, sEq_T, List.all_cons, List.all_nil, List.any_cons, List.any_nil, Bool.and_true, Bool.true_and, Bool.or_false, Bool.or_true, Bool.true_or, Bool.false_or, Bool.not_true, Bool.not_false, List.length_cons, List.length_nil, Nat.zero_add, Nat.reduceAdd, line_eq, true_and, and_true, String.reduceBEq, Int.reduceBEq, decide_true, decide_false, Int.reduceLT, Int.reduceLE, beq_self_eq_true, Nat.reduceLeDiff]
      rw [hlen, hge]
      simp only [wp_ok, wp_bad, wp_bind, wS_ok, wS_bad, wS_cons, wS_nil, wS_pass, wS_break, wS_cont, wS_never, wS_set, wS_expr, wS_ret, wS_retN, wS_if, wS_asg, wS_aug, wS_for, wp_lc, wp_m1, wp_m2, wp_mN, wp_aNil, wp_aCons, wp_mC, wp_var, wp_if, wp_and, wp_or, wp_not, wp_chain, wp_mt, wp_get, wp_isi, wp_fld, wp_sl, wp_oNone, wp_oSome, wp_tBool, wp_tTru, wp_tNot, wp_tAnd, wp_tOr, wp_tAll, wp_gSlot, wp_gsNil, wp_gsCons, wp_gTup, wp_gSub, wp_iAny, wp_iSeq, wp_iTup, wp_iStr, wp_iRange1, wp_iRange2, wp_iZip, wS_fld, wp_make, seqQ, rtQ, turnQ, List.getElem?_cons_zero, List.getElem?_cons_succ, List.set_cons_zero, List.set_cons_succ, wipeD, if_true, if_false, Bool.false_eq_true, Bool.true_eq_false, reduceIte, w_add, w_iadd, w_iaddS, w_addS, w_addL, w_addT, w_sub, w_mul, w_mod, w_fdiv, w_pow, w_neg, w_lt, w_le, w_gt, w_ge, w_eqI, w_neI, w_eqT, w_neT, w_isN, w_isnotN, w_isB, w_isNB, w_len, w_lenT, w_int, w_intB, w_abs, w_min, w_max, w_tup, w_lst, w_new, w_list, w_listN, w_ix, w_ixT, w_ixD, w_inT1, w_notinT1, w_inT2, w_notinT2, w_inT3, w_notinT3, w_inT4, w_notinT4, w_inT5, w_notinT5, w_inT6, w_notinT6, w_inT7, w_notinT7, w_inT8, w_notinT8, w_sl1, at_0, at_1, at_2, at_3, at_4, at_5, hasTy_list, hasTy_str, isNonD, flatD, sEq_T, List.all_cons, List.all_nil, List.any_cons, List.any_nil, Bool.and_true, Bool.true_and, Bool.or_false, Bool.or_true, Bool.true_or, Bool.false_or, Bool.not_true, Bool.not_false, List.length_cons, List.length_nil, Nat.zero_add, Nat.reduceAdd, line_eq, true_and, and_true, String.reduceBEq, Int.reduceBEq, decide_true, decide_false, Int.reduceLT, Int.reduceLE, beq_self_eq_true, Nat.reduceLeDiff]
      exact kk
    | some o =>
      have hlt : at_ < os.length := (List.getElem?_eq_some_iff.mp ho).1
      have hok := hg.ok at_ o ho
      by_cases hon : o.on = true
      · refine part_turn h31 (by omega) hb (by omega) hs ho hok hon fun v5 v6 => ?_
        have gt := to_gt at_ g st' o
        refine ⟨o.to at_ g st', m + 2, o.step g st', _, v5, v6, rfl, rfl, by omega, hb.step hs hok, by omega, fun f hf => ?_⟩
        have h2 := he (os.length + 1) (by omega)
        rw [run_on ho hon] at h2
        rw [← h2]
        exact run_fuel _ _ _ _ hf (by omega)
      · have hge : decide ((at_ : Int) ≥ (os.length : Nat)) = false := decide_eq_false (by omega)
        have h2 := he (os.length + 1) (by omega)
        rw [run, ho] at h2
        have kk := k
        have hoff : o = .next ∨ o = .lose := by
          cases o <;> first
            | exact .inl rfl
            | exact .inr rfl
            | exact absurd rfl hon
        rcases hoff with rfl | rfl
        · rw [show run os g os.length 0 st = (true, st') from h2.symm] at kk
          unfold pb
          simp only [wp_ok, wp_bad, wp_bind, wS_ok, wS_bad, wS_cons, wS_nil, wS_pass, wS_break, wS_cont, wS_never, wS_set, wS_expr, wS_ret, wS_retN, wS_if, wS_asg, wS_aug, wS_for, wp_lc, wp_m1, wp_m2, wp_mN, wp_aNil, wp_aCons, wp_mC, wp_var, wp_if, wp_and, wp_or, wp_not, wp_chain, wp_mt, wp_get, wp_isi, wp_fld, wp_sl, wp_oNone, wp_oSome, wp_tBool, wp_tTru, wp_tNot, wp_tAnd, wp_tOr, wp_tAll, wp_gSlot, wp_gsNil, wp_gsCons, wp_gTup, wp_gSub, wp_iAny, wp_iSeq, wp_iTup, wp_iStr, wp_iRange1, wp_iRange2, wp_iZip, wS_fld, wp_make, seqQ, rtQ, turnQ, List.getElem?_cons_zero, List.getElem?_cons_succ, List.set_cons_zero, List.set_cons_succ, wipeD, if_true, if_false, Bool.false_eq_true, Bool.true_eq_false, reduceIte, w_add, w_iadd, w_iaddS, w_addS, w_addL, w_addT, w_sub, w_mul, w_mod, w_fdiv, w_pow, w_neg, w_lt, w_le, w_gt, w_ge, w_eqI, w_neI, w_eqT, w_neT, w_isN, w_isnotN, w_isB, w_isNB, w_len, w_lenT, w_int, w_intB, w_abs, w_min, w_max, w_tup, w_lst, w_new, w_list, w_listN, w_ix, w_ixT, w_ixD, w_inT1, w_notinT1, w_inT2, w_notinT2, w_inT3, w_notinT3, w_inT4, w_notinT4, w_inT5, w_notinT5, w_inT6, w_notinT6, w_inT7, w_notinT7, w_inT8, w_notinT8, w_sl1, at_0, at_1, at_2, at_3, at_4, at_5, hasTy_list, hasTy_str, isNonD, flatD, sEq_T, List.all_cons, List.all_nil, List.any_cons, List.any_nil, Bool.and_true, Bool.true_and, Bool.or_false, Bool.or_true, Bool.true_or, Bool.false_or, Bool.not_true, Bool.not_false, List.length_cons, List.length_nil, Nat.zero_add, Nat.reduceAdd, line_eq, true_and, and_true, String.reduceBEq, Int.reduceBEq, decide_true, decide_false, Int.reduceLT, Int.reduceLE, beq_self_eq_true, Nat.reduceLeDiff]
          rw [hlen, hge]
          simp only [wp_ok, wp_bad, wp_bind, wS_ok, wS_bad, wS_cons, wS_nil, wS_pass, wS_break, wS_cont, wS_never, wS_set, wS_expr, wS_ret, wS_retN, wS_if, wS_asg, wS_aug, wS_for, wp_lc, wp_m1, wp_m2, wp_mN, wp_aNil, wp_aCons, wp_mC, wp_var, wp_if, wp_and, wp_or, wp_not, wp_chain, wp_mt, wp_get, wp_isi, wp_fld, wp_sl, wp_oNone, wp_oSome, wp_tBool, wp_tTru, wp_tNot, wp_tAnd, wp_tOr, wp_tAll, wp_gSlot, wp_gsNil, wp_gsCons, wp_gTup, wp_gSub, wp_iAny, wp_iSeq, wp_iTup, wp_iStr, wp_iRange1, wp_iRange2, wp_iZip, wS_fld, wp_make, seqQ, rtQ, turnQ, List.getElem?_cons_zero, List.getElem?_cons_succ, List.set_cons_zero, List.set_cons_succ, wipeD, if_true, if_false, Bool.false_eq_true, Bool.true_eq_false, reduceIte, w_add, w_iadd, w_iaddS, w_addS, w_addL, w_addT, w_sub, w_mul, w_mod, w_fdiv, w_pow, w_neg, w_lt, w_le, w_gt, w_ge, w_eqI, w_neI, w_eqT, w_neT, w_isN, w_isnotN, w_isB, w_isNB, w_len, w_lenT, w_int, w_intB, w_abs, w_min, w_max, w_tup, w_lst, w_new, w_list, w_listN, w_ix, w_ixT, w_ixD, w_inT1, w_notinT1, w_inT2, w_notinT2, w_inT3, w_notinT3, w_inT4, w_notinT4, w_inT5, w_notinT5, w_inT6, w_notinT6, w_inT7, w_notinT7, w_inT8, w_notinT8, w_sl1, at_0, at_1, at_2, at_3, at_4, at_5, hasTy_list, hasTy_str, isNonD, flatD, sEq_T, List.all_cons, List.all_nil, List.any_cons, List.any_nil, Bool.and_true, Bool.true_and, Bool.or_false, Bool.or_true, Bool.true_or, Bool.false_or, Bool.not_true, Bool.not_false, List.length_cons, List.length_nil, Nat.zero_add, Nat.reduceAdd, line_eq, true_and, and_true, String.reduceBEq, Int.reduceBEq, decide_true, decide_false, Int.reduceLT, Int.reduceLE, beq_self_eq_true, Nat.reduceLeDiff]
          simp only [ord_ix ho, d_0, TO.word, w_inT2, w_eqT, String.reduceBEq, Bool.true_or, Bool.or_true, Bool.false_or, if_true, List.set_cons_succ, List.set_cons_zero, Bool.false_eq_true, if_false]
          try simp only [wp_ok, wp_bad, wp_bind, wS_ok, wS_bad, wS_cons, wS_nil, wS_pass, wS_break, wS_cont, wS_never, wS_set, wS_expr, wS_ret, wS_retN, wS_if, wS_asg, wS_aug, wS_for, wp_lc, wp_m1, wp_m2, wp_mN, wp_aNil, wp_aCons, wp_mC, wp_var, wp_if, wp_and, wp_or, wp_not, wp_chain, wp_mt, wp_get, wp_isi, wp_fld, wp_sl, wp_oNone, wp_oSome, wp_tBool, wp_tTru, wp_tNot, wp_tAnd, wp_tOr, wp_tAll, wp_gSlot, wp_gsNil, wp_gsCons, wp_gTup, wp_gSub, wp_iAny, wp_iSeq, wp_iTup, wp_iStr, wp_iRange1, wp_iRange2, wp_iZip, wS_fld, wp_make, seqQ, rtQ, turnQ, List.getElem?_cons_zero, List.getElem?_cons_succ, List.set_cons_zero, List.set_cons_succ, wipeD, if_true, if_false, Bool.false_eq_true, Bool.true_eq_false, reduceIte, w_add, w_iadd, w_iaddS, w_addS, w_addL, w_addT, w_sub, w_mul, w_mod, w_fdiv, w_pow, w_neg, w_lt, w_le, w_gt, w_ge, w_eqI, w_neI, w_eqT, w_neT, w_isN, w_isnotN, w_isB, w_isNB, w_len, w_lenT, w_int, w_intB, w_abs, w_min, w_max, w_tup, w_lst, w_new, w_list, w_listN, w_ix, w_ixT, w_ixD, w_inT1, w_notinT1, w_inT2, w_notinT2, w_inT3, w_notinT3, w_inT4, w_notinT4, w_inT5, w_notinT5, w_inT6, w_notinT6, w_inT7, w_notinT7, w_inT8, w_notinT8, w_sl1, at_0, at_1, at_2, at_3, at_4, at_5, hasTy_list, hasTy_str, isNonD, flatD, sEq_T, List.all_cons, List.all_nil, List.any_cons, List.any_nil, Bool.and_true, Bool.true_and, Bool.or_false, Bool.or_true, Bool.true_or, Bool.false_or, Bool.not_true, Bool.not_false, List.length_cons, List.length_nil, Nat.zero_add, Nat.reduceAdd, line_eq, true_and, and_true, String.reduceBEq, Int.reduceBEq, decide_true, decide_false, Int.reduceLT, Int.reduceLE, beq_self_eq_true, Nat.reduceLeDiff]
          exact kk
        · rw [show run os g os.length 0 st = (false, st') from h2.symm] at kk
          unfold pb
          simp only [wp_ok, wp_bad, wp_bind, wS_ok, wS_bad, wS_cons, wS_nil, wS_pass, wS_break, wS_cont, wS_never, wS_set, wS_expr, wS_ret, wS_retN, wS_if, wS_asg, wS_aug, wS_for, wp_lc, wp_m1, wp_m2, wp_mN, wp_aNil, wp_aCons, wp_mC, wp_var, wp_if, wp_and, wp_or, wp_not, wp_chain, wp_mt, wp_get, wp_isi, wp_fld, wp_sl, wp_oNone, wp_oSome, wp_tBool, wp_tTru, wp_tNot, wp_tAnd, wp_tOr, wp_tAll, wp_gSlot, wp_gsNil, wp_gsCons, wp_gTup, wp_gSub, wp_iAny, wp_iSeq, wp_iTup, wp_iStr, wp_iRange1, wp_iRange2, wp_iZip, wS_fld, wp_make, seqQ, rtQ, turnQ, List.getElem?_cons_zero, List.getElem?_cons_succ, List.set_cons_zero, List.set_cons_succ, wipeD, if_true, if_false, Bool.false_eq_true, Bool.true_eq_false, reduceIte, w_add, w_iadd, w_iaddS, w_addS, w_addL, w_addT, w_sub, w_mul, w_mod, w_fdiv, w_pow, w_neg, w_lt, w_le, w_gt, w_ge, w_eqI, w_neI, w_eqT, w_neT, w_isN, w_isnotN, w_isB, w_isNB, w_len, w_lenT, w_int, w_intB, w_abs, w_min, w_max, w_tup, w_lst, w_new, w_list, w_listN, w_ix, w_ixT, w_ixD, w_inT1, w_notinT1, w_inT2, w_notinT2, w_inT3, w_notinT3, w_inT4, w_notinT4, w_inT5, w_notinT5, w_inT6, w_notinT6, w_inT7, w_notinT7, w_inT8, w_notinT8, w_sl1, at_0, at_1, at_2, at_3, at_4, at_5, hasTy_list, hasTy_str, isNonD, flatD, sEq_T, List.all_cons, List.all_nil, List.any_cons, List.any_nil, Bool.and_true, Bool.true_and, Bool.or_false, Bool.or_true, Bool.true_or, Bool.false_or, Bool.not_true, Bool.not_false, List.length_cons, List.length_nil, Nat.zero_add, Nat.reduceAdd, line_eq, true_and, and_true, String.reduceBEq, Int.reduceBEq, decide_true, decide_false, Int.reduceLT, Int.reduceLE, beq_self_eq_true, Nat.reduceLeDiff]
          rw [hlen, hge]
          simp only [wp_ok, wp_bad, wp_bind, wS_ok, wS_bad, wS_cons, wS_nil, wS_pass, wS_break, wS_cont, wS_never, wS_set, wS_expr, wS_ret, wS_retN, wS_if, wS_asg, wS_aug, wS_for, wp_lc, wp_m1, wp_m2, wp_mN, wp_aNil, wp_aCons, wp_mC, wp_var, wp_if, wp_and, wp_or, wp_not, wp_chain, wp_mt, wp_get, wp_isi, wp_fld, wp_sl, wp_oNone, wp_oSome, wp_tBool, wp_tTru, wp_tNot, wp_tAnd, wp_tOr, wp_tAll, wp_gSlot, wp_gsNil, wp_gsCons, wp_gTup, wp_gSub, wp_iAny, wp_iSeq, wp_iTup, wp_iStr, wp_iRange1, wp_iRange2, wp_iZip, wS_fld, wp_make, seqQ, rtQ, turnQ, List.getElem?_cons_zero, List.getElem?_cons_succ, List.set_cons_zero, List.set_cons_succ, wipeD, if_true, if_false, Bool.false_eq_true, Bool.true_eq_false, reduceIte, w_add, w_iadd, w_iaddS, w_addS, w_addL, w_addT, w_sub, w_mul, w_mod, w_fdiv, w_pow, w_neg, w_lt, w_le, w_gt, w_ge, w_eqI, w_neI, w_eqT, w_neT, w_isN, w_isnotN, w_isB, w_isNB, w_len, w_lenT, w_int, w_intB, w_abs, w_min, w_max, w_tup, w_lst, w_new, w_list, w_listN, w_ix, w_ixT, w_ixD, w_inT1, w_notinT1, w_inT2, w_notinT2, w_inT3, w_notinT3, w_inT4, w_notinT4, w_inT5, w_notinT5, w_inT6, w_notinT6, w_inT7, w_notinT7, w_inT8, w_notinT8, w_sl1, at_0, at_1, at_2, at_3, at_4, at_5, hasTy_list, hasTy_str, isNonD, flatD, sEq_T, List.all_cons, List.all_nil, List.any_cons, List.any_nil, Bool.and_true, Bool.true_and, Bool.or_false, Bool.or_true, Bool.true_or, Bool.false_or, Bool.not_true, Bool.not_false, List.length_cons, List.length_nil, Nat.zero_add, Nat.reduceAdd, line_eq, true_and, and_true, String.reduceBEq, Int.reduceBEq, decide_true, decide_false, Int.reduceLT, Int.reduceLE, beq_self_eq_true, Nat.reduceLeDiff]
          simp only [ord_ix ho, d_0, TO.word, w_inT2, w_eqT, String.reduceBEq, Bool.true_or, Bool.or_true, Bool.false_or, if_true, List.set_cons_succ, List.set_cons_zero, Bool.false_eq_true, if_false]
          try simp only [wp_ok, wp_bad, wp_bind, wS_ok, wS_bad, wS_cons, wS_nil, wS_pass, wS_break, wS_cont, wS_never, wS_set, wS_expr, wS_ret, wS_retN, wS_if, wS_asg, wS_aug, wS_for, wp_lc, wp_m1, wp_m2, wp_mN, wp_aNil, wp_aCons, wp_mC, wp_var, wp_if, wp_and, wp_or, wp_not, wp_chain, wp_mt, wp_get, wp_isi, wp_fld, wp_sl, wp_oNone, wp_oSome, wp_tBool, wp_tTru, wp_tNot, wp_tAnd, wp_tOr, wp_tAll, wp_gSlot, wp_gsNil, wp_gsCons, wp_gTup, wp_gSub, wp_iAny, wp_iSeq, wp_iTup, wp_iStr, wp_iRange1, wp_iRange2, wp_iZip, wS_fld, wp_make, seqQ, rtQ, turnQ, List.getElem?_cons_zero, List.getElem?_cons_succ, List.set_cons_zero, List.set_cons_succ, wipeD, if_true, if_false, Bool.false_eq_true, Bool.true_eq_false, reduceIte, w_add, w_iadd, w_iaddS, w_addS, w_addL, w_addT, w_sub, w_mul, w_mod, w_fdiv, w_pow, w_neg, w_lt, w_le, w_gt, w_ge, w_eqI, w_neI, w_eqT, w_neT, w_isN, w_isnotN, w_isB, w_isNB, w_len, w_lenT, w_int, w_intB, w_abs, w_min, w_max, w_tup, w_lst, w_new, w_list, w_listN, w_ix, w_ixT, w_ixD, w_inT1, w_notinT1, w_inT2, w_notinT2, w_inT3, w_notinT3, w_inT4, w_notinT4, w_inT5, w_notinT5, w_inT6, w_notinT6, w_inT7, w_notinT7, w_inT8, w_notinT8, w_sl1, at_0, at_1, at_2, at_3, at_4, at_5, hasTy_list, hasTy_str, isNonD, flatD, sEq_T, List.all_cons, List.all_nil, List.any_cons, List.any_nil, Bool.and_true, Bool.true_and, Bool.or_false, Bool.or_true, Bool.true_or, Bool.false_or, Bool.not_true, Bool.not_false, List.length_cons, List.length_nil, Nat.zero_add, Nat.reduceAdd, line_eq, true_and, and_true, String.reduceBEq, Int.reduceBEq, decide_true, decide_false, Int.reduceLT, Int.reduceLE, beq_self_eq_true, Nat.reduceLeDiff]
          exact kk
  · intro f hf
    exact run_fuel _ _ _ _ (by omega) (by omega)
end
end
end K11
namespace K11
open PySem PySem.Spec PyProof.Rows L2 Pm
noncomputable section
/-! ### the image of a text -/
theorem Sk.mono {n m : Nat} {st : Sta} (h : Sk n st) (k : n ≤ m) : Sk m st := ⟨h.fl, h.kept, Nat.le_trans h.wr k⟩
theorem Sk.run {l : List Char} {b : Bool} {os : List TO} {g : List Char} (hg : Good l b os) (hs : g.length ≤ 1) : ∀ (f at_ n : Nat) (st : Sta), Sk n st → Sk (n + 2 * f) (run os g f at_ st).2
  | 0, at_, n, st, h => h
  | f + 1, at_, n, st, h => by
    cases ho : os[at_]? with
    | none =>
      rw [K11.run, ho]
      exact h.mono (by omega)
    | some o =>
      cases hon : o.on with
      | true =>
        rw [run_on ho hon]
        exact (Sk.run hg hs f _ _ _ (h.step hs (hg.ok at_ o ho))).mono (by omega)
      | false =>
        rw [K11.run, ho]
        cases o <;> first
          | exact h.mono (by omega)
          | cases hon
def img (l : List Char) (body fin : List TO) : List Char → Sta → Option (List Char)
  | [], st => if (run fin [] fin.length 0 st).1 then some (run fin [] fin.length 0 st).2.wr else none
  | c :: cs, st => if c ∈ l ∧ (run body [c] body.length 0 st).1 = true then img l body fin cs (run body [c] body.length 0 st).2 else none
def optT : Option (List Char) → D
  | none => .non
  | some w => .str (tx w)
section
variable {A1 A2 A3 A4 : O} {l : List Char} {body fin : List TO}
def st0 : Sta := ⟨[false, false, false, false], [], []⟩
theorem sk0 : Sk 0 st0 := ⟨rfl, by simp [st0], by simp [st0]⟩
def sp_b : MS := (sIf (tOr2 (tBool (m2 dNotIn (mVar 6) (mVar 2))) (tNot1 (tTru dTru (mN f_law_part (aCons (mVar 3) (aCons (mVar 5) (aCons (mVar 6) aNil)))))))
  (sRet (mC .non))
  ssNil)
theorem fz_opt {Q : D → S → Prop} {st : Sta} {w : Option (List Char)} (hlow : Low 4 A1 A2 A3 A4) (k : Q (optT w) [A1, A2, A3, A4]) : fzQ 4 Q (optT w) (wdS A1 A2 A3 A4 st) := by
  refine ⟨optT w, by cases w <;> rfl, ?_, k⟩
  unfold stOk wdS
  simp [hlow.a, hlow.b, hlow.c, hlow.d]
theorem spelt_loop {Q : D → S → Prop} (hb : Good l true body) (hf : Good l false fin) (hlow : Low 4 A1 A2 A3 A4) (t0 : List Char) {xs0 : List D} {d0 : D} : ∀ (t : List Char) (n : Nat) (st : Sta) (v6 : Option D), Sk n st → n + 62 * t.length + 62 ≤ 900000 →
    Q (optT (img l body fin t st)) [A1, A2, A3, A4] →
    wS (forL none xs0 (gSlot 6) sp_b (t.map fun c => D.str (tx [c])) [some d0, some (.str (tx t0)), some (.str (tx l)), some (.lst (body.map TO.d)), some (.lst (fin.map TO.d)), some (.ref 4), v6] (wdS A1 A2 A3 A4 st))
    (seqQ
      (sRet (mIf (tTru dTru (mN f_law_part (aCons (mVar 4) (aCons (mVar 5) (aCons (mC (D.str (Str.ofString ""))) aNil))))) (m2 dIxK (mVar 5) (mC (D.str (Str.ofString "written")))) (mC D.non)))
      (rtQ (fzQ 4 Q)))
  | [], n, st, v6, hsk, hn, k => by
    simp only [List.map_nil, wS_forL_nil]
    refine ⟨trivial, ?_⟩
    simp only [wp_ok, wp_bad, wp_bind, wS_ok, wS_bad, wS_cons, wS_nil, wS_pass, wS_break, wS_cont, wS_never, wS_set, wS_expr, wS_ret, wS_retN, wS_if, wS_asg, wS_aug, wS_for, wp_lc, wp_m1, wp_m2, wp_mN, wp_aNil, wp_aCons, wp_mC, wp_var, wp_if, wp_and, wp_or, wp_not, wp_chain, wp_mt, wp_get, wp_isi, wp_fld, wp_sl, wp_oNone, wp_oSome, wp_tBool, wp_tTru, wp_tNot, wp_tAnd, wp_tOr, wp_tAll, wp_gSlot, wp_gsNil, wp_gsCons, wp_gTup, wp_gSub, wp_iAny, wp_iSeq, wp_iTup, wp_iStr, wp_iRange1, wp_iRange2, wp_iZip, wS_fld, wp_make, seqQ, rtQ, turnQ, List.getElem?_cons_zero, List.getElem?_cons_succ, List.set_cons_zero, List.set_cons_succ, wipeD, if_true, if_false, Bool.false_eq_true, Bool.true_eq_false, reduceIte, w_add, w_iadd, w_iaddS, w_addS, w_addL, w_addT, w_sub, w_mul, w_mod, w_fdiv, w_pow, w_neg, w_lt, w_le, w_gt, w_ge, w_eqI, w_neI, w_eqT, w_neT, w_isN, w_isnotN, w_isB, w_isNB, w_len, w_lenT, w_int, w_intB, w_abs, w_min, w_max, w_tup, w_lst, w_new, w_list, w_listN, w_ix, w_ixT, w_ixD, w_inT1, w_notinT1, w_inT2, w_notinT2, w_inT3, w_notinT3, w_inT4, w_notinT4, w_inT5, w_notinT5, w_inT6, w_notinT6, w_inT7, w_notinT7, w_inT8, w_notinT8, w_sl1, at_0, at_1, at_2, at_3, at_4, at_5, hasTy_list, hasTy_str, isNonD, flatD, sEq_T, List.all_cons, List.all_nil, List.any_cons, List.any_nil, Bool.and_true, Bool.true_and, Bool.or_false, Bool.or_true, Bool.true_or, Bool.false_or, Bool.not_true, Bool.not_false, List.length_cons, List.length_nil, Nat.zero_add, Nat.reduceAdd, line_eq, true_and, and_true, String.reduceBEq, Int.reduceBEq, decide_true, decide_false, Int.reduceLT, Int.reduceLE, beq_self_eq_true, Nat.reduceLeDiff]
    rw [← tx_nil]
    have h31 := hf.len
    refine part_wp hf (by simp) (by simp at hn; omega) hsk ?_
    simp only [img] at k
    simp only [dTru, ix_wr]
    by_cases hr : (run fin [] fin.length 0 st).1 = true
    · rw [if_pos hr] at k
      rw [if_pos hr]
      exact fz_opt (w := some _) hlow k
    · rw [if_neg hr] at k
      rw [if_neg hr]
      exact fz_opt (w := none) hlow k
  | c :: t, n, st, v6, hsk, hn, k => by
    simp only [List.map_cons, wS_forL_cons]
    refine ⟨trivial, ?_⟩
    unfold sp_b
    simp only [wp_ok, wp_bad, wp_bind, wS_ok, wS_bad, wS_cons, wS_nil, wS_pass, wS_break, wS_cont, wS_never, wS_set, wS_expr, wS_ret, wS_retN, wS_if, wS_asg, wS_aug, wS_for, wp_lc, wp_m1, wp_m2, wp_mN, wp_aNil, wp_aCons, wp_mC, wp_var, wp_if, wp_and, wp_or, wp_not, wp_chain, wp_mt, wp_get, wp_isi, wp_fld, wp_sl, wp_oNone, wp_oSome, wp_tBool, wp_tTru, wp_tNot, wp_tAnd, wp_tOr, wp_tAll, wp_gSlot, wp_gsNil, wp_gsCons, wp_gTup, wp_gSub, wp_iAny, wp_iSeq, wp_iTup, wp_iStr, wp_iRange1, wp_iRange2, wp_iZip, wS_fld, wp_make, seqQ, rtQ, turnQ, List.getElem?_cons_zero, List.getElem?_cons_succ, List.set_cons_zero, List.set_cons_succ, wipeD, if_true, if_false, Bool.false_eq_true, Bool.true_eq_false, reduceIte, w_add, w_iadd, w_iaddS, w_addS, w_addL, w_addT, w_sub, w_mul, w_mod, w_fdiv, w_pow, w_neg, w_lt, w_le, w_gt, w_ge, w_eqI, w_neI, w_eqT, w_neT, w_isN, w_isnotN, w_isB, w_isNB, w_len, w_lenT, w_int, w_intB, w_abs, w_min, w_max, w_tup, w_lst, w_new, w_list, w_listN, w_ix, w_ixT, w_ixD, w_inT1, w_notinT1, w_inT2, w_notinT2, w_inT3, w_notinT3, w_inT4, w_notinT4, w_inT5, w_notinT5, w_inT6, w_notinT6, w_inT7, w_notinT7, w_inT8, w_notinT8, w_sl1, at_0, at_1, at_2, at_3, at_4, at_5, hasTy_list, hasTy_str, isNonD, flatD, sEq_T, List.all_cons, List.all_nil, List.any_cons, List.any_nil, Bool.and_true, Bool.true_and, Bool.or_false, Bool.or_true, Bool.true_or, Bool.false_or, Bool.not_true, Bool.not_false, List.length_cons, List.length_nil, Nat.zero_add, Nat.reduceAdd, line_eq, true_and, and_true, String.reduceBEq, Int.reduceBEq, decide_true, decide_false, Int.reduceLT, Int.reduceLE, beq_self_eq_true, Nat.reduceLeDiff]
    have h31 := hb.len
    simp only [List.length_cons] at hn
    simp only [img] at k
    rw [x_notin]
    by_cases hc : c ∈ l
    · simp only [hc, decide_true, Bool.not_true, Bool.false_eq_true, if_false, true_and] at k ⊢
      refine part_wp hb (by simp) (by omega) hsk ?_
      simp only [dTru]
      by_cases hr : (run body [c] body.length 0 st).1 = true
      · rw [if_pos hr] at k
        rw [hr]
        simp only [Bool.not_true, Bool.false_eq_true, if_false]
        exact spelt_loop hb hf hlow t0 t (n + 62) _ _ ((Sk.run hb (by simp) _ _ _ _ hsk).mono (by omega)) (by omega) k
      · rw [if_neg hr] at k
        rw [Bool.eq_false_iff.mpr hr]
        simp only [Bool.not_false, if_true]
        exact fz_opt (w := none) hlow k
    · simp only [hc, decide_false, Bool.not_false, if_true, false_and, if_false] at k ⊢
      exact fz_opt (w := none) hlow k
theorem spelt_wp {Q : D → S → Prop} (hb : Good l true body) (hf : Good l false fin) (hlow : Low 4 A1 A2 A3 A4) {t : List Char} (ht : t.length ≤ 1000)
    (k : Q (optT (img l body fin t st0)) [A1, A2, A3, A4]) :
    wp (f_law_spelt [.tup [.str (tx l), .lst (body.map TO.d), .lst (fin.map TO.d)], .str (tx t)] [A1, A2, A3, A4]) Q := by
  refine wp_mkFz ((wp_fn (n := 2) (tot := 7) (m := m_law_spelt) rfl).mpr ?_)
  show wS (m_law_spelt [some (.tup [.str (tx l), .lst (body.map TO.d), .lst (fin.map TO.d)]), some (.str (tx t)), none, none, none, none, none] _) _
  unfold m_law_spelt
  simp only [wp_ok, wp_bad, wp_bind, wS_ok, wS_bad, wS_cons, wS_nil, wS_pass, wS_break, wS_cont, wS_never, wS_set, wS_expr, wS_ret, wS_retN, wS_if, wS_asg, wS_aug, wS_for, wp_lc, wp_m1, wp_m2, wp_mN, wp_aNil, wp_aCons, wp_mC, wp_var, wp_if, wp_and, wp_or, wp_not, wp_chain, wp_mt, wp_get, wp_isi, wp_fld, wp_sl, wp_oNone, wp_oSome, wp_tBool, wp_tTru, wp_tNot, wp_tAnd, wp_tOr, wp_tAll, wp_gSlot, wp_gsNil, wp_gsCons, wp_gTup, wp_gSub, wp_iAny, wp_iSeq, wp_iTup, wp_iStr, wp_iRange1, wp_iRange2, wp_iZip, wS_fld, wp_make, seqQ, rtQ, turnQ, List.getElem?_cons_zero, List.getElem?_cons_succ, List.set_cons_zero, List.set_cons_succ, wipeD, if_true, if_false, Bool.false_eq_true, Bool.true_eq_false, reduceIte, w_add, w_iadd, w_iaddS, w_addS, w_addL, w_addT, w_sub, w_mul, w_mod, w_fdiv, w_pow, w_neg, w_lt, w_le, w_gt, w_ge, w_eqI, w_neI, w_eqT, w_neT, w_isN, w_isnotN, w_isB, w_isNB, w_len, w_lenT, w_int, w_intB, w_abs, w_min, w_max, w_tup, w_lst, w_new, w_list, w_listN, w_ix, w_ixT, w_ixD, w_inT1, w_notinT1, w_inT2, w_notinT2, w_inT3, w_notinT3, w_inT4, w_notinT4, w_inT5, w_notinT5, w_inT6, w_notinT6, w_inT7, w_notinT7, w_inT8, w_notinT8, w_sl1, at_0, at_1, at_2, at_3, at_4, at_5, hasTy_list, hasTy_str, isNonD, flatD, sEq_T, List.all_cons, List.all_nil, List.any_cons, List.any_nil, Bool.and_true, Bool.true_and, Bool.or_false, Bool.or_true, Bool.true_or, Bool.false_or, Bool.not_true, Bool.not_false, List.length_cons, List.length_nil, Nat.zero_add, Nat.reduceAdd, line_eq, true_and, and_true, String.reduceBEq, Int.reduceBEq, decide_true, decide_false, Int.reduceLT, Int.reduceLE, beq_self_eq_true, Nat.reduceLeDiff]
  simp only [wp_disp]
  simp only [wp_ok, wp_bad, wp_bind, wS_ok, wS_bad, wS_cons, wS_nil, wS_pass, wS_break, wS_cont, wS_never, wS_set, wS_expr, wS_ret, wS_retN, wS_if, wS_asg, wS_aug, wS_for, wp_lc, wp_m1, wp_m2, wp_mN, wp_aNil, wp_aCons, wp_mC, wp_var, wp_if, wp_and, wp_or, wp_not, wp_chain, wp_mt, wp_get, wp_isi, wp_fld, wp_sl, wp_oNone, wp_oSome, wp_tBool, wp_tTru, wp_tNot, wp_tAnd, wp_tOr, wp_tAll, wp_gSlot, wp_gsNil, wp_gsCons, wp_gTup, wp_gSub, wp_iAny, wp_iSeq, wp_iTup, wp_iStr, wp_iRange1, wp_iRange2, wp_iZip, wS_fld, wp_make, seqQ, rtQ, turnQ, List.getElem?_cons_zero, List.getElem?_cons_succ, List.set_cons_zero, List.set_cons_succ, wipeD, if_true, if_false, Bool.false_eq_true, Bool.true_eq_false, reduceIte, w_add, w_iadd, w_iaddS, w_addS, w_addL, w_addT, w_sub, w_mul, w_mod, w_fdiv, w_pow, w_neg, w_lt, w_le, w_gt, w_ge, w_eqI, w_neI, w_eqT, w_neT, w_isN, w_isnotN, w_isB, w_isNB, w_len, w_lenT, w_int, w_intB, w_abs, w_min, w_max, w_tup, w_lst, w_new, w_list, w_listN, w_ix, w_ixT, w_ixD, w_inT1, w_notinT1, w_inT2, w_notinT2, w_inT3, w_notinT3, w_inT4, w_notinT4, w_inT5, w_notinT5, w_inT6, w_notinT6, w_inT7, w_notinT7, w_inT8, w_notinT8, w_sl1, at_0, at_1, at_2, at_3, at_4, at_5, hasTy_list, hasTy_str, isNonD, flatD, sEq_T, List.all_cons, List.all_nil, List.any_cons, List.any_nil, Bool.and_true, Bool.true_and, Bool.or_false, Bool.or_true, Bool.true_or, Bool.false_or, Bool.not_true, Bool.not_false, List.length_cons, List.length_nil, Nat.zero_add, Nat.reduceAdd, line_eq, true_and, and_true, String.reduceBEq, Int.reduceBEq, decide_true, decide_false, Int.reduceLT, Int.reduceLE, beq_self_eq_true, Nat.reduceLeDiff]
  have em : mergeD [] ([Sum.inr (Str.ofString "flags"), Sum.inr (Str.ofString "kept"), Sum.inr (Str.ofString "written")].zip [D.ref 5, D.str (Str.ofString ""), D.str (Str.ofString "")]) = wK st0 := by
    simp [mergeD, putD, wK, ofString_inj, st0, tx_nil]
  have es : [A1, A2, A3, A4, .dK (wK st0), .lst [D.bl false, D.bl false, D.bl false, D.bl false]] = wdS A1 A2 A3 A4 st0 := rfl
  rw [tx_chars]
  simp only [List.cons_append, List.nil_append, List.length_cons, List.length_nil, Nat.zero_add, Nat.reduceAdd, List.getElem?_cons_succ, List.getElem?_cons_zero, List.set_cons_succ, List.set_cons_zero, em, es]
  exact spelt_loop hb hf hlow t t 0 st0 none sk0 (by omega) k
end
end
end K11
namespace K11
open PySem PySem.Spec PyProof.Rows L2 Pm
noncomputable section
/-! ### the engine's image -/
section
variable {A1 A2 A3 A4 : O} {l : List Char} {body fin : List TO}
def rcD (l : List Char) (body fin : List TO) : D := .ins "TextRecipe" [("letters", .str (tx l)), ("body", .lst (body.map TO.d)), ("finish", .lst (fin.map TO.d))]
theorem init_sp {Q : D → S → Prop} {E : D → S → Prop} (k : Q .non (spS A1 A2 A3 A4 st0 [])) : wp (f_Speller_init [.ref 4, .lst [.bl false, .bl false, .bl false, .bl false], .str (Str.ofString "")] [A1, A2, A3, A4, .ins "Speller" []]) Q E := by
  refine (wp_fn (n := 3) (tot := 3) (m := m_Speller_init) rfl).mpr ?_
  show wS (m_Speller_init [some (.ref 4), some (.lst [.bl false, .bl false, .bl false, .bl false]), some (.str (Str.ofString ""))] _) _ _
  unfold m_Speller_init
  try simp only [wp_rep, wp_meth, w_lenSo, w_tupT, w_tupL, List.length_map, wp_ok, wp_bad, wp_bind, wS_ok, wS_bad, wS_cons, wS_nil, wS_pass, wS_break, wS_cont, wS_never, wS_set, wS_expr, wS_ret, wS_retN, wS_if, wS_asg, wS_aug, wS_for, wp_lc, wp_m1, wp_m2, wp_mN, wp_aNil, wp_aCons, wp_mC, wp_var, wp_if2, wp_and2, wp_or2, wp_not, wp_chain2, isBl_bl, andK_p, orK_p, andV_p, orV_p, iteK_p, andK_t, andK_f, orK_t, orK_f, andV_t, andV_f, orV_t, orV_f, iteK_t, iteK_f, wp_tTru2, dTru_bl, dTru_lst, dTru_int, dTru_non, wp_mt, wp_get, wp_isi, wp_fld, wp_sl, wp_oNone, wp_oSome, wp_tBool, wp_tNot, wp_tAnd2, wp_tOr2, wp_tAll, wp_gSlot, wp_gsNil, wp_gsCons, wp_gTup, wp_gSub, wp_iAny, wp_iSeq, wp_iTup, wp_iStr, wp_iRange1, wp_iRange2, wp_iZip, wS_fld, wp_make, seqQ, rtQ, turnQ, List.getElem?_cons_zero, List.getElem?_cons_succ, List.set_cons_zero, List.set_cons_succ, wipeD, if_true, if_false, Bool.false_eq_true, Bool.true_eq_false, reduceIte, w_add, w_iadd, w_iaddS, w_addS, w_addL, w_addT, w_sub, w_mul, w_mod, w_fdiv, w_pow, w_neg, w_lt, w_le, w_gt, w_ge, w_eqI, w_neI, w_eqT, w_neT, w_isN, w_isnotN, w_isB, w_isNB, w_len, w_lenT, w_int, w_intB, w_abs, w_min, w_max, w_tup, w_lst, w_new, w_list, w_listN, w_ix, w_ixT, w_ixD, w_inT1, w_notinT1, w_inT2, w_notinT2, w_inT3, w_notinT3, w_inT4, w_notinT4, w_inT5, w_notinT5, w_inT6, w_notinT6, w_inT7, w_notinT7, w_inT8, w_notinT8, w_sl1, at_0, at_1, at_2, at_3, at_4, at_5, hasTy_list, hasTy_str, isNonD, flatD, sEq_T, List.all_cons, List.all_nil, List.any_cons, List.any_nil, Bool.and_true, Bool.true_and, Bool.or_false, Bool.or_true, Bool.true_or, Bool.false_or, Bool.not_true, Bool.not_false, List.length_cons, List.length_nil, Nat.zero_add, Nat.reduceAdd, line_eq, true_and, and_true, String.reduceBEq, Int.reduceBEq, decide_true, decide_false, Int.reduceLT, Int.reduceLE, beq_self_eq_true, Nat.reduceLeDiff, wS_raise, wp_xinit, wp_sets0, wp_sets1, wp_fs, wp_xf, wp_xis, hdQ, setO, List.map_cons, List.map_nil, tabF_cons, tabF_nil, lview, w_inU1, w_inU2, w_inU3, w_inU4, w_notinU1, w_notinU2, w_notinU3, w_notinU4, wp_lcN, and_self, or_true, true_or, or_false, false_or, not_true_eq_false, not_false_eq_true, ne_eq, reduceCtorEq, List.cons.injEq, Bool.and_false, Bool.false_and, Bool.and_self, Bool.or_self, List.mem_cons, List.not_mem_nil, isSub, ty_tup, ty_lst, ty_int, ty_bl, ty_str, ty_non, nb, Bool.and_eq_true, Bool.or_eq_true, decide_eq_true_eq, beq_iff_eq, Int.cast_ofNat_Int, List.lookup_cons, List.lookup_nil, str_beq, insOf, not_true_eq_false, gok0]
  try simp only [List.append_assoc, List.cons_append, List.nil_append, List.length_append, List.length_cons, List.length_nil, Nat.zero_add, Nat.add_zero, Nat.add_assoc, Nat.reduceAdd, e_at0, e_at1, e_at2, e_at3, e_set0, e_set1, e_set2, e_set3, putFD, ofS_inj, String.reduceEq, if_true, if_false, reduceIte, true_and, and_true, and_self, Nat.reduceLT, List.map_nil]
  try simp only [wp_rep, wp_meth, w_lenSo, w_tupT, w_tupL, List.length_map, wp_ok, wp_bad, wp_bind, wS_ok, wS_bad, wS_cons, wS_nil, wS_pass, wS_break, wS_cont, wS_never, wS_set, wS_expr, wS_ret, wS_retN, wS_if, wS_asg, wS_aug, wS_for, wp_lc, wp_m1, wp_m2, wp_mN, wp_aNil, wp_aCons, wp_mC, wp_var, wp_if2, wp_and2, wp_or2, wp_not, wp_chain2, isBl_bl, andK_p, orK_p, andV_p, orV_p, iteK_p, andK_t, andK_f, orK_t, orK_f, andV_t, andV_f, orV_t, orV_f, iteK_t, iteK_f, wp_tTru2, dTru_bl, dTru_lst, dTru_int, dTru_non, wp_mt, wp_get, wp_isi, wp_fld, wp_sl, wp_oNone, wp_oSome, wp_tBool, wp_tNot, wp_tAnd2, wp_tOr2, wp_tAll, wp_gSlot, wp_gsNil, wp_gsCons, wp_gTup, wp_gSub, wp_iAny, wp_iSeq, wp_iTup, wp_iStr, wp_iRange1, wp_iRange2, wp_iZip, wS_fld, wp_make, seqQ, rtQ, turnQ, List.getElem?_cons_zero, List.getElem?_cons_succ, List.set_cons_zero, List.set_cons_succ, wipeD, if_true, if_false, Bool.false_eq_true, Bool.true_eq_false, reduceIte, w_add, w_iadd, w_iaddS, w_addS, w_addL, w_addT, w_sub, w_mul, w_mod, w_fdiv, w_pow, w_neg, w_lt, w_le, w_gt, w_ge, w_eqI, w_neI, w_eqT, w_neT, w_isN, w_isnotN, w_isB, w_isNB, w_len, w_lenT, w_int, w_intB, w_abs, w_min, w_max, w_tup, w_lst, w_new, w_list, w_listN, w_ix, w_ixT, w_ixD, w_inT1, w_notinT1, w_inT2, w_notinT2, w_inT3, w_notinT3, w_inT4, w_notinT4, w_inT5, w_notinT5, w_inT6, w_notinT6, w_inT7, w_notinT7, w_inT8, w_notinT8, w_sl1, at_0, at_1, at_2, at_3, at_4, at_5, hasTy_list, hasTy_str, isNonD, flatD, sEq_T, List.all_cons, List.all_nil, List.any_cons, List.any_nil, Bool.and_true, Bool.true_and, Bool.or_false, Bool.or_true, Bool.true_or, Bool.false_or, Bool.not_true, Bool.not_false, List.length_cons, List.length_nil, Nat.zero_add, Nat.reduceAdd, line_eq, true_and, and_true, String.reduceBEq, Int.reduceBEq, decide_true, decide_false, Int.reduceLT, Int.reduceLE, beq_self_eq_true, Nat.reduceLeDiff, wS_raise, wp_xinit, wp_sets0, wp_sets1, wp_fs, wp_xf, wp_xis, hdQ, setO, List.map_cons, List.map_nil, tabF_cons, tabF_nil, lview, w_inU1, w_inU2, w_inU3, w_inU4, w_notinU1, w_notinU2, w_notinU3, w_notinU4, wp_lcN, and_self, or_true, true_or, or_false, false_or, not_true_eq_false, not_false_eq_true, ne_eq, reduceCtorEq, List.cons.injEq, Bool.and_false, Bool.false_and, Bool.and_self, Bool.or_self, List.mem_cons, List.not_mem_nil, isSub, ty_tup, ty_lst, ty_int, ty_bl, ty_str, ty_non, nb, Bool.and_eq_true, Bool.or_eq_true, decide_eq_true_eq, beq_iff_eq, Int.cast_ofNat_Int, List.lookup_cons, List.lookup_nil, str_beq, insOf, not_true_eq_false, gok0]
  try simp only [List.append_assoc, List.cons_append, List.nil_append, List.length_append, List.length_cons, List.length_nil, Nat.zero_add, Nat.add_zero, Nat.add_assoc, Nat.reduceAdd, e_at0, e_at1, e_at2, e_at3, e_set0, e_set1, e_set2, e_set3, putFD, ofS_inj, String.reduceEq, if_true, if_false, reduceIte, true_and, and_true, and_self, Nat.reduceLT, List.map_nil]
  try simp only [wp_rep, wp_meth, w_lenSo, w_tupT, w_tupL, List.length_map, wp_ok, wp_bad, wp_bind, wS_ok, wS_bad, wS_cons, wS_nil, wS_pass, wS_break, wS_cont, wS_never, wS_set, wS_expr, wS_ret, wS_retN, wS_if, wS_asg, wS_aug, wS_for, wp_lc, wp_m1, wp_m2, wp_mN, wp_aNil, wp_aCons, wp_mC, wp_var, wp_if2, wp_and2, wp_or2, wp_not, wp_chain2, isBl_bl, andK_p, orK_p, andV_p, orV_p, iteK_p, andK_t, andK_f, orK_t, orK_f, andV_t, andV_f, orV_t, orV_f, iteK_t, iteK_f, wp_tTru2, dTru_bl, dTru_lst, dTru_int, dTru_non, wp_mt, wp_get, wp_isi, wp_fld, wp_sl, wp_oNone, wp_oSome, wp_tBool, wp_tNot, wp_tAnd2, wp_tOr2, wp_tAll, wp_gSlot, wp_gsNil, wp_gsCons, wp_gTup, wp_gSub, wp_iAny, wp_iSeq, wp_iTup, wp_iStr, wp_iRange1, wp_iRange2, wp_iZip, wS_fld, wp_make, seqQ, rtQ, turnQ, List.getElem?_cons_zero, List.getElem?_cons_succ, List.set_cons_zero, List.set_cons_succ, wipeD, if_true, if_false, Bool.false_eq_true, Bool.true_eq_false, reduceIte, w_add, w_iadd, w_iaddS, w_addS, w_addL, w_addT, w_sub, w_mul, w_mod, w_fdiv, w_pow, w_neg, w_lt, w_le, w_gt, w_ge, w_eqI, w_neI, w_eqT, w_neT, w_isN, w_isnotN, w_isB, w_isNB, w_len, w_lenT, w_int, w_intB, w_abs, w_min, w_max, w_tup, w_lst, w_new, w_list, w_listN, w_ix, w_ixT, w_ixD, w_inT1, w_notinT1, w_inT2, w_notinT2, w_inT3, w_notinT3, w_inT4, w_notinT4, w_inT5, w_notinT5, w_inT6, w_notinT6, w_inT7, w_notinT7, w_inT8, w_notinT8, w_sl1, at_0, at_1, at_2, at_3, at_4, at_5, hasTy_list, hasTy_str, isNonD, flatD, sEq_T, List.all_cons, List.all_nil, List.any_cons, List.any_nil, Bool.and_true, Bool.true_and, Bool.or_false, Bool.or_true, Bool.true_or, Bool.false_or, Bool.not_true, Bool.not_false, List.length_cons, List.length_nil, Nat.zero_add, Nat.reduceAdd, line_eq, true_and, and_true, String.reduceBEq, Int.reduceBEq, decide_true, decide_false, Int.reduceLT, Int.reduceLE, beq_self_eq_true, Nat.reduceLeDiff, wS_raise, wp_xinit, wp_sets0, wp_sets1, wp_fs, wp_xf, wp_xis, hdQ, setO, List.map_cons, List.map_nil, tabF_cons, tabF_nil, lview, w_inU1, w_inU2, w_inU3, w_inU4, w_notinU1, w_notinU2, w_notinU3, w_notinU4, wp_lcN, and_self, or_true, true_or, or_false, false_or, not_true_eq_false, not_false_eq_true, ne_eq, reduceCtorEq, List.cons.injEq, Bool.and_false, Bool.false_and, Bool.and_self, Bool.or_self, List.mem_cons, List.not_mem_nil, isSub, ty_tup, ty_lst, ty_int, ty_bl, ty_str, ty_non, nb, Bool.and_eq_true, Bool.or_eq_true, decide_eq_true_eq, beq_iff_eq, Int.cast_ofNat_Int, List.lookup_cons, List.lookup_nil, str_beq, insOf, not_true_eq_false, gok0]
  try simp only [List.append_assoc, List.cons_append, List.nil_append, List.length_append, List.length_cons, List.length_nil, Nat.zero_add, Nat.add_zero, Nat.add_assoc, Nat.reduceAdd, e_at0, e_at1, e_at2, e_at3, e_set0, e_set1, e_set2, e_set3, putFD, ofS_inj, String.reduceEq, if_true, if_false, reduceIte, true_and, and_true, and_self, Nat.reduceLT, List.map_nil]
  exact k
theorem fz_optS {Q : D → S → Prop} {st : Sta} {w : Option (List Char)} (hlow : Low 4 A1 A2 A3 A4) (k : Q (optT w) [A1, A2, A3, A4]) : fzQ 4 Q (optT w) (spS A1 A2 A3 A4 st []) := by
  refine ⟨optT w, by cases w <;> rfl, ?_, k⟩
  unfold stOk spS
  simp [hlow.a, hlow.b, hlow.c, hlow.d]
theorem Low.up (h : Low 4 A1 A2 A3 A4) : Low 6 A1 A2 A3 A4 := ⟨ltO_le (by decide) h.a, ltO_le (by decide) h.b, ltO_le (by decide) h.c, ltO_le (by decide) h.d⟩
def im_b : MS := (sIf (tOr2 (tBool (m2 dNotIn (mVar 3) (mFld "letters" ["TextRecipe"] (mVar 0)))) (tNot1 (tTru dTru (m2 dIx (mMeth "execute" [("Speller", f_Speller_execute)] (mVar 2) (aCons (mFld "body" ["TextRecipe"] (mVar 0)) (aCons (mVar 3) aNil))) (mC (.int 1))))))
  (sRet (mC .non))
  ssNil)
theorem image_loop {Q : D → S → Prop} {E : D → Rho → S → Prop} (hb : Good l true body) (hf : Good l false fin) (hlow : Low 4 A1 A2 A3 A4) (t0 : List Char) {xs0 : List D} : ∀ (t : List Char) (n : Nat) (st : Sta) (v3 : Option D), Sk n st → n + 62 * t.length + 62 ≤ 900000 →
    Q (optT (img l body fin t st)) [A1, A2, A3, A4] →
    wS (forL none xs0 (gSlot 3) im_b (t.map fun c => D.str (tx [c])) [some (rcD l body fin), some (.str (tx t0)), some (.ref 4), v3] (spS A1 A2 A3 A4 st []))
    (seqQ (ssCons (sIf (tNot1 (tTru dTru (m2 dIx (mMeth "execute" [("Speller", f_Speller_execute)] (mVar 2) (aCons (mFld "finish" ["TextRecipe"] (mVar 0)) (aCons (mC (.str "")) aNil))) (mC (.int 1)))))
      (sRet (mC .non)) ssNil) (sRet (mFld "written" ["Speller"] (mVar 2)))) (rtQ (fzQ 4 Q)) E) E
  | [], n, st, v3, hsk, hn, k => by
    rw [List.map_nil, wS_forL_nil]
    refine ⟨trivial, ?_⟩
    have h31 := hf.len
    unfold rcD
    try simp only [wp_rep, wp_meth, w_lenSo, w_tupT, w_tupL, List.length_map, wp_ok, wp_bad, wp_bind, wS_ok, wS_bad, wS_cons, wS_nil, wS_pass, wS_break, wS_cont, wS_never, wS_set, wS_expr, wS_ret, wS_retN, wS_if, wS_asg, wS_aug, wS_for, wp_lc, wp_m1, wp_m2, wp_mN, wp_aNil, wp_aCons, wp_mC, wp_var, wp_if2, wp_and2, wp_or2, wp_not, wp_chain2, isBl_bl, andK_p, orK_p, andV_p, orV_p, iteK_p, andK_t, andK_f, orK_t, orK_f, andV_t, andV_f, orV_t, orV_f, iteK_t, iteK_f, wp_tTru2, dTru_bl, dTru_lst, dTru_int, dTru_non, wp_mt, wp_get, wp_isi, wp_fld, wp_sl, wp_oNone, wp_oSome, wp_tBool, wp_tNot, wp_tAnd2, wp_tOr2, wp_tAll, wp_gSlot, wp_gsNil, wp_gsCons, wp_gTup, wp_gSub, wp_iAny, wp_iSeq, wp_iTup, wp_iStr, wp_iRange1, wp_iRange2, wp_iZip, wS_fld, wp_make, seqQ, rtQ, turnQ, List.getElem?_cons_zero, List.getElem?_cons_succ, List.set_cons_zero, List.set_cons_succ, wipeD, if_true, if_false, Bool.false_eq_true, Bool.true_eq_false, reduceIte, w_add, w_iadd, w_iaddS, w_addS, w_addL, w_addT, w_sub, w_mul, w_mod, w_fdiv, w_pow, w_neg, w_lt, w_le, w_gt, w_ge, w_eqI, w_neI, w_eqT, w_neT, w_isN, w_isnotN, w_isB, w_isNB, w_len, w_lenT, w_int, w_intB, w_abs, w_min, w_max, w_tup, w_lst, w_new, w_list, w_listN, w_ix, w_ixT, w_ixD, w_inT1, w_notinT1, w_inT2, w_notinT2, w_inT3, w_notinT3, w_inT4, w_notinT4, w_inT5, w_notinT5, w_inT6, w_notinT6, w_inT7, w_notinT7, w_inT8, w_notinT8, w_sl1, at_0, at_1, at_2, at_3, at_4, at_5, hasTy_list, hasTy_str, isNonD, flatD, sEq_T, List.all_cons, List.all_nil, List.any_cons, List.any_nil, Bool.and_true, Bool.true_and, Bool.or_false, Bool.or_true, Bool.true_or, Bool.false_or, Bool.not_true, Bool.not_false, List.length_cons, List.length_nil, Nat.zero_add, Nat.reduceAdd, line_eq, true_and, and_true, String.reduceBEq, Int.reduceBEq, decide_true, decide_false, Int.reduceLT, Int.reduceLE, beq_self_eq_true, Nat.reduceLeDiff, wS_raise, wp_xinit, wp_sets0, wp_sets1, wp_fs, wp_xf, wp_xis, hdQ, setO, List.map_cons, List.map_nil, tabF_cons, tabF_nil, lview, w_inU1, w_inU2, w_inU3, w_inU4, w_notinU1, w_notinU2, w_notinU3, w_notinU4, wp_lcN, and_self, or_true, true_or, or_false, false_or, not_true_eq_false, not_false_eq_true, ne_eq, reduceCtorEq, List.cons.injEq, Bool.and_false, Bool.false_and, Bool.and_self, Bool.or_self, List.mem_cons, List.not_mem_nil, isSub, ty_tup, ty_lst, ty_int, ty_bl, ty_str, ty_non, nb, Bool.and_eq_true, Bool.or_eq_true, decide_eq_true_eq, beq_iff_eq, Int.cast_ofNat_Int, List.lookup_cons, List.lookup_nil, str_beq, insOf, not_true_eq_false, gok0]
    simp only [sp_at, no_execute, beq_self_eq_true, ← tx_nil]
    refine wp_up (exec_wp (g := []) hf (by simp) hlow.up (m := n) (by simp only [List.length_nil] at hn; omega) hsk fun p' => ?_)
    simp only [img] at k
    try simp only [wp_rep, wp_meth, w_lenSo, w_tupT, w_tupL, List.length_map, wp_ok, wp_bad, wp_bind, wS_ok, wS_bad, wS_cons, wS_nil, wS_pass, wS_break, wS_cont, wS_never, wS_set, wS_expr, wS_ret, wS_retN, wS_if, wS_asg, wS_aug, wS_for, wp_lc, wp_m1, wp_m2, wp_mN, wp_aNil, wp_aCons, wp_mC, wp_var, wp_if2, wp_and2, wp_or2, wp_not, wp_chain2, isBl_bl, andK_p, orK_p, andV_p, orV_p, iteK_p, andK_t, andK_f, orK_t, orK_f, andV_t, andV_f, orV_t, orV_f, iteK_t, iteK_f, wp_tTru2, dTru_bl, dTru_lst, dTru_int, dTru_non, wp_mt, wp_get, wp_isi, wp_fld, wp_sl, wp_oNone, wp_oSome, wp_tBool, wp_tNot, wp_tAnd2, wp_tOr2, wp_tAll, wp_gSlot, wp_gsNil, wp_gsCons, wp_gTup, wp_gSub, wp_iAny, wp_iSeq, wp_iTup, wp_iStr, wp_iRange1, wp_iRange2, wp_iZip, wS_fld, wp_make, seqQ, rtQ, turnQ, List.getElem?_cons_zero, List.getElem?_cons_succ, List.set_cons_zero, List.set_cons_succ, wipeD, if_true, if_false, Bool.false_eq_true, Bool.true_eq_false, reduceIte, w_add, w_iadd, w_iaddS, w_addS, w_addL, w_addT, w_sub, w_mul, w_mod, w_fdiv, w_pow, w_neg, w_lt, w_le, w_gt, w_ge, w_eqI, w_neI, w_eqT, w_neT, w_isN, w_isnotN, w_isB, w_isNB, w_len, w_lenT, w_int, w_intB, w_abs, w_min, w_max, w_tup, w_lst, w_new, w_list, w_listN, w_ix, w_ixT, w_ixD, w_inT1, w_notinT1, w_inT2, w_notinT2, w_inT3, w_notinT3, w_inT4, w_notinT4, w_inT5, w_notinT5, w_inT6, w_notinT6, w_inT7, w_notinT7, w_inT8, w_notinT8, w_sl1, at_0, at_1, at_2, at_3, at_4, at_5, hasTy_list, hasTy_str, isNonD, flatD, sEq_T, List.all_cons, List.all_nil, List.any_cons, List.any_nil, Bool.and_true, Bool.true_and, Bool.or_false, Bool.or_true, Bool.true_or, Bool.false_or, Bool.not_true, Bool.not_false, List.length_cons, List.length_nil, Nat.zero_add, Nat.reduceAdd, line_eq, true_and, and_true, String.reduceBEq, Int.reduceBEq, decide_true, decide_false, Int.reduceLT, Int.reduceLE, beq_self_eq_true, Nat.reduceLeDiff, wS_raise, wp_xinit, wp_sets0, wp_sets1, wp_fs, wp_xf, wp_xis, hdQ, setO, List.map_cons, List.map_nil, tabF_cons, tabF_nil, lview, w_inU1, w_inU2, w_inU3, w_inU4, w_notinU1, w_notinU2, w_notinU3, w_notinU4, wp_lcN, and_self, or_true, true_or, or_false, false_or, not_true_eq_false, not_false_eq_true, ne_eq, reduceCtorEq, List.cons.injEq, Bool.and_false, Bool.false_and, Bool.and_self, Bool.or_self, List.mem_cons, List.not_mem_nil, isSub, ty_tup, ty_lst, ty_int, ty_bl, ty_str, ty_non, nb, Bool.and_eq_true, Bool.or_eq_true, decide_eq_true_eq, beq_iff_eq, Int.cast_ofNat_Int, List.lookup_cons, List.lookup_nil, str_beq, insOf, not_true_eq_false, gok0]
    by_cases hr : (run fin [] fin.length 0 st).1 = true
    · rw [if_pos hr] at k
      rw [if_neg (by simp [hr])]
      simp only [sp_at, lk_wr]
      exact ⟨trivial, fz_optS (w := some _) hlow k⟩
    · rw [if_neg hr] at k
      rw [if_pos hr]
      exact fz_optS (w := none) hlow k
  | c :: t, n, st, v3, hsk, hn, k => by
    rw [List.map_cons, wS_forL_cons]
    refine ⟨trivial, ?_⟩
    have h31 := hb.len
    simp only [List.length_cons] at hn
    simp only [img] at k
    unfold rcD im_b
    try simp only [wp_rep, wp_meth, w_lenSo, w_tupT, w_tupL, List.length_map, wp_ok, wp_bad, wp_bind, wS_ok, wS_bad, wS_cons, wS_nil, wS_pass, wS_break, wS_cont, wS_never, wS_set, wS_expr, wS_ret, wS_retN, wS_if, wS_asg, wS_aug, wS_for, wp_lc, wp_m1, wp_m2, wp_mN, wp_aNil, wp_aCons, wp_mC, wp_var, wp_if2, wp_and2, wp_or2, wp_not, wp_chain2, isBl_bl, andK_p, orK_p, andV_p, orV_p, iteK_p, andK_t, andK_f, orK_t, orK_f, andV_t, andV_f, orV_t, orV_f, iteK_t, iteK_f, wp_tTru2, dTru_bl, dTru_lst, dTru_int, dTru_non, wp_mt, wp_get, wp_isi, wp_fld, wp_sl, wp_oNone, wp_oSome, wp_tBool, wp_tNot, wp_tAnd2, wp_tOr2, wp_tAll, wp_gSlot, wp_gsNil, wp_gsCons, wp_gTup, wp_gSub, wp_iAny, wp_iSeq, wp_iTup, wp_iStr, wp_iRange1, wp_iRange2, wp_iZip, wS_fld, wp_make, seqQ, rtQ, turnQ, List.getElem?_cons_zero, List.getElem?_cons_succ, List.set_cons_zero, List.set_cons_succ, wipeD, if_true, if_false, Bool.false_eq_true, Bool.true_eq_false, reduceIte, w_add, w_iadd, w_iaddS, w_addS, w_addL, w_addT, w_sub, w_mul, w_mod, w_fdiv, w_pow, w_neg, w_lt, w_le, w_gt, w_ge, w_eqI, w_neI, w_eqT, w_neT, w_isN, w_isnotN, w_isB, w_isNB, w_len, w_lenT, w_int, w_intB, w_abs, w_min, w_max, w_tup, w_lst, w_new, w_list, w_listN, w_ix, w_ixT, w_ixD, w_inT1, w_notinT1, w_inT2, w_notinT2, w_inT3, w_notinT3, w_inT4, w_notinT4, w_inT5, w_notinT5, w_inT6, w_notinT6, w_inT7, w_notinT7, w_inT8, w_notinT8, w_sl1, at_0, at_1, at_2, at_3, at_4, at_5, hasTy_list, hasTy_str, isNonD, flatD, sEq_T, List.all_cons, List.all_nil, List.any_cons, List.any_nil, Bool.and_true, Bool.true_and, Bool.or_false, Bool.or_true, Bool.true_or, Bool.false_or, Bool.not_true, Bool.not_false, List.length_cons, List.length_nil, Nat.zero_add, Nat.reduceAdd, line_eq, true_and, and_true, String.reduceBEq, Int.reduceBEq, decide_true, decide_false, Int.reduceLT, Int.reduceLE, beq_self_eq_true, Nat.reduceLeDiff, wS_raise, wp_xinit, wp_sets0, wp_sets1, wp_fs, wp_xf, wp_xis, hdQ, setO, List.map_cons, List.map_nil, tabF_cons, tabF_nil, lview, w_inU1, w_inU2, w_inU3, w_inU4, w_notinU1, w_notinU2, w_notinU3, w_notinU4, wp_lcN, and_self, or_true, true_or, or_false, false_or, not_true_eq_false, not_false_eq_true, ne_eq, reduceCtorEq, List.cons.injEq, Bool.and_false, Bool.false_and, Bool.and_self, Bool.or_self, List.mem_cons, List.not_mem_nil, isSub, ty_tup, ty_lst, ty_int, ty_bl, ty_str, ty_non, nb, Bool.and_eq_true, Bool.or_eq_true, decide_eq_true_eq, beq_iff_eq, Int.cast_ofNat_Int, List.lookup_cons, List.lookup_nil, str_beq, insOf, not_true_eq_false, gok0]
    rw [x_notin]
    by_cases hc : c ∈ l
    · simp only [hc, decide_true, true_and] at k ⊢
      try simp only [wp_rep, wp_meth, w_lenSo, w_tupT, w_tupL, List.length_map, wp_ok, wp_bad, wp_bind, wS_ok, wS_bad, wS_cons, wS_nil, wS_pass, wS_break, wS_cont, wS_never, wS_set, wS_expr, wS_ret, wS_retN, wS_if, wS_asg, wS_aug, wS_for, wp_lc, wp_m1, wp_m2, wp_mN, wp_aNil, wp_aCons, wp_mC, wp_var, wp_if2, wp_and2, wp_or2, wp_not, wp_chain2, isBl_bl, andK_p, orK_p, andV_p, orV_p, iteK_p, andK_t, andK_f, orK_t, orK_f, andV_t, andV_f, orV_t, orV_f, iteK_t, iteK_f, wp_tTru2, dTru_bl, dTru_lst, dTru_int, dTru_non, wp_mt, wp_get, wp_isi, wp_fld, wp_sl, wp_oNone, wp_oSome, wp_tBool, wp_tNot, wp_tAnd2, wp_tOr2, wp_tAll, wp_gSlot, wp_gsNil, wp_gsCons, wp_gTup, wp_gSub, wp_iAny, wp_iSeq, wp_iTup, wp_iStr, wp_iRange1, wp_iRange2, wp_iZip, wS_fld, wp_make, seqQ, rtQ, turnQ, List.getElem?_cons_zero, List.getElem?_cons_succ, List.set_cons_zero, List.set_cons_succ, wipeD, if_true, if_false, Bool.false_eq_true, Bool.true_eq_false, reduceIte, w_add, w_iadd, w_iaddS, w_addS, w_addL, w_addT, w_sub, w_mul, w_mod, w_fdiv, w_pow, w_neg, w_lt, w_le, w_gt, w_ge, w_eqI, w_neI, w_eqT, w_neT, w_isN, w_isnotN, w_isB, w_isNB, w_len, w_lenT, w_int, w_intB, w_abs, w_min, w_max, w_tup, w_lst, w_new, w_list, w_listN, w_ix, w_ixT, w_ixD, w_inT1, w_notinT1, w_inT2, w_notinT2, w_inT3, w_notinT3, w_inT4, w_notinT4, w_inT5, w_notinT5, w_inT6, w_notinT6, w_inT7, w_notinT7, w_inT8, w_notinT8, w_sl1, at_0, at_1, at_2, at_3, at_4, at_5, hasTy_list, hasTy_str, isNonD, flatD, sEq_T, List.all_cons, List.all_nil, List.any_cons, List.any_nil, Bool.and_true, Bool.true_and, Bool.or_false, Bool.or_true, Bool.true_or, Bool.false_or, Bool.not_true, Bool.not_false, List.length_cons, List.length_nil, Nat.zero_add, Nat.reduceAdd, line_eq, true_and, and_true, String.reduceBEq, Int.reduceBEq, decide_true, decide_false, Int.reduceLT, Int.reduceLE, beq_self_eq_true, Nat.reduceLeDiff, wS_raise, wp_xinit, wp_sets0, wp_sets1, wp_fs, wp_xf, wp_xis, hdQ, setO, List.map_cons, List.map_nil, tabF_cons, tabF_nil, lview, w_inU1, w_inU2, w_inU3, w_inU4, w_notinU1, w_notinU2, w_notinU3, w_notinU4, wp_lcN, and_self, or_true, true_or, or_false, false_or, not_true_eq_false, not_false_eq_true, ne_eq, reduceCtorEq, List.cons.injEq, Bool.and_false, Bool.false_and, Bool.and_self, Bool.or_self, List.mem_cons, List.not_mem_nil, isSub, ty_tup, ty_lst, ty_int, ty_bl, ty_str, ty_non, nb, Bool.and_eq_true, Bool.or_eq_true, decide_eq_true_eq, beq_iff_eq, Int.cast_ofNat_Int, List.lookup_cons, List.lookup_nil, str_beq, insOf, not_true_eq_false, gok0]
      simp only [sp_at, no_execute, beq_self_eq_true]
      refine wp_up (exec_wp (g := [c]) hb (by simp) hlow.up (m := n) (by omega) hsk fun p' => ?_)
      try simp only [wp_rep, wp_meth, w_lenSo, w_tupT, w_tupL, List.length_map, wp_ok, wp_bad, wp_bind, wS_ok, wS_bad, wS_cons, wS_nil, wS_pass, wS_break, wS_cont, wS_never, wS_set, wS_expr, wS_ret, wS_retN, wS_if, wS_asg, wS_aug, wS_for, wp_lc, wp_m1, wp_m2, wp_mN, wp_aNil, wp_aCons, wp_mC, wp_var, wp_if2, wp_and2, wp_or2, wp_not, wp_chain2, isBl_bl, andK_p, orK_p, andV_p, orV_p, iteK_p, andK_t, andK_f, orK_t, orK_f, andV_t, andV_f, orV_t, orV_f, iteK_t, iteK_f, wp_tTru2, dTru_bl, dTru_lst, dTru_int, dTru_non, wp_mt, wp_get, wp_isi, wp_fld, wp_sl, wp_oNone, wp_oSome, wp_tBool, wp_tNot, wp_tAnd2, wp_tOr2, wp_tAll, wp_gSlot, wp_gsNil, wp_gsCons, wp_gTup, wp_gSub, wp_iAny, wp_iSeq, wp_iTup, wp_iStr, wp_iRange1, wp_iRange2, wp_iZip, wS_fld, wp_make, seqQ, rtQ, turnQ, List.getElem?_cons_zero, List.getElem?_cons_succ, List.set_cons_zero, List.set_cons_succ, wipeD, if_true, if_false, Bool.false_eq_true, Bool.true_eq_false, reduceIte, w_add, w_iadd, w_iaddS, w_addS, w_addL, w_addT, w_sub, w_mul, w_mod, w_fdiv, w_pow, w_neg, w_lt, w_le, w_gt, w_ge, w_eqI, w_neI, w_eqT, w_neT, w_isN, w_isnotN, w_isB, w_isNB, w_len, w_lenT, w_int, w_intB, w_abs, w_min, w_max, w_tup, w_lst, w_new, w_list, w_listN, w_ix, w_ixT, w_ixD, w_inT1, w_notinT1, w_inT2, w_notinT2, w_inT3, w_notinT3, w_inT4, w_notinT4, w_inT5, w_notinT5, w_inT6, w_notinT6, w_inT7, w_notinT7, w_inT8, w_notinT8, w_sl1, at_0, at_1, at_2, at_3, at_4, at_5, hasTy_list, hasTy_str, isNonD, flatD, sEq_T, List.all_cons, List.all_nil, List.any_cons, List.any_nil, Bool.and_true, Bool.true_and, Bool.or_false, Bool.or_true, Bool.true_or, Bool.false_or, Bool.not_true, Bool.not_false, List.length_cons, List.length_nil, Nat.zero_add, Nat.reduceAdd, line_eq, true_and, and_true, String.reduceBEq, Int.reduceBEq, decide_true, decide_false, Int.reduceLT, Int.reduceLE, beq_self_eq_true, Nat.reduceLeDiff, wS_raise, wp_xinit, wp_sets0, wp_sets1, wp_fs, wp_xf, wp_xis, hdQ, setO, List.map_cons, List.map_nil, tabF_cons, tabF_nil, lview, w_inU1, w_inU2, w_inU3, w_inU4, w_notinU1, w_notinU2, w_notinU3, w_notinU4, wp_lcN, and_self, or_true, true_or, or_false, false_or, not_true_eq_false, not_false_eq_true, ne_eq, reduceCtorEq, List.cons.injEq, Bool.and_false, Bool.false_and, Bool.and_self, Bool.or_self, List.mem_cons, List.not_mem_nil, isSub, ty_tup, ty_lst, ty_int, ty_bl, ty_str, ty_non, nb, Bool.and_eq_true, Bool.or_eq_true, decide_eq_true_eq, beq_iff_eq, Int.cast_ofNat_Int, List.lookup_cons, List.lookup_nil, str_beq, insOf, not_true_eq_false, gok0]
      by_cases hr : (run body [c] body.length 0 st).1 = true
      · rw [if_pos hr] at k
        rw [if_neg (by simp [hr])]
        exact image_loop hb hf hlow t0 t (n + 62) _ _ ((Sk.run hb (by simp) _ _ _ _ hsk).mono (by omega)) (by omega) k
      · rw [if_neg hr] at k
        rw [if_pos hr]
        exact fz_optS (w := none) hlow k
    · simp only [hc, decide_false, false_and, if_false] at k ⊢
      try simp only [wp_rep, wp_meth, w_lenSo, w_tupT, w_tupL, List.length_map, wp_ok, wp_bad, wp_bind, wS_ok, wS_bad, wS_cons, wS_nil, wS_pass, wS_break, wS_cont, wS_never, wS_set, wS_expr, wS_ret, wS_retN, wS_if, wS_asg, wS_aug, wS_for, wp_lc, wp_m1, wp_m2, wp_mN, wp_aNil, wp_aCons, wp_mC, wp_var, wp_if2, wp_and2, wp_or2, wp_not, wp_chain2, isBl_bl, andK_p, orK_p, andV_p, orV_p, iteK_p, andK_t, andK_f, orK_t, orK_f, andV_t, andV_f, orV_t, orV_f, iteK_t, iteK_f, wp_tTru2, dTru_bl, dTru_lst, dTru_int, dTru_non, wp_mt, wp_get, wp_isi, wp_fld, wp_sl, wp_oNone, wp_oSome, wp_tBool, wp_tNot, wp_tAnd2, wp_tOr2, wp_tAll, wp_gSlot, wp_gsNil, wp_gsCons, wp_gTup, wp_gSub, wp_iAny, wp_iSeq, wp_iTup, wp_iStr, wp_iRange1, wp_iRange2, wp_iZip, wS_fld, wp_make, seqQ, rtQ, turnQ, List.getElem?_cons_zero, List.getElem?_cons_succ, List.set_cons_zero, List.set_cons_succ, wipeD, if_true, if_false, Bool.false_eq_true, Bool.true_eq_false, reduceIte, w_add, w_iadd, w_iaddS, w_addS, w_addL, w_addT, w_sub, w_mul, w_mod, w_fdiv, w_pow, w_neg, w_lt, w_le, w_gt, w_ge, w_eqI, w_neI, w_eqT, w_neT, w_isN, w_isnotN, w_isB, w_isNB, w_len, w_lenT, w_int, w_intB, w_abs, w_min, w_max, w_tup, w_lst, w_new, w_list, w_listN, w_ix, w_ixT, w_ixD, w_inT1, w_notinT1, w_inT2, w_notinT2, w_inT3, w_notinT3, w_inT4, w_notinT4, w_inT5, w_notinT5, w_inT6, w_notinT6, w_inT7, w_notinT7, w_inT8, w_notinT8, w_sl1, at_0, at_1, at_2, at_3, at_4, at_5, hasTy_list, hasTy_str, isNonD, flatD, sEq_T, List.all_cons, List.all_nil, List.any_cons, List.any_nil, Bool.and_true, Bool.true_and, Bool.or_false, Bool.or_true, Bool.true_or, Bool.false_or, Bool.not_true, Bool.not_false, List.length_cons, List.length_nil, Nat.zero_add, Nat.reduceAdd, line_eq, true_and, and_true, String.reduceBEq, Int.reduceBEq, decide_true, decide_false, Int.reduceLT, Int.reduceLE, beq_self_eq_true, Nat.reduceLeDiff, wS_raise, wp_xinit, wp_sets0, wp_sets1, wp_fs, wp_xf, wp_xis, hdQ, setO, List.map_cons, List.map_nil, tabF_cons, tabF_nil, lview, w_inU1, w_inU2, w_inU3, w_inU4, w_notinU1, w_notinU2, w_notinU3, w_notinU4, wp_lcN, and_self, or_true, true_or, or_false, false_or, not_true_eq_false, not_false_eq_true, ne_eq, reduceCtorEq, List.cons.injEq, Bool.and_false, Bool.false_and, Bool.and_self, Bool.or_self, List.mem_cons, List.not_mem_nil, isSub, ty_tup, ty_lst, ty_int, ty_bl, ty_str, ty_non, nb, Bool.and_eq_true, Bool.or_eq_true, decide_eq_true_eq, beq_iff_eq, Int.cast_ofNat_Int, List.lookup_cons, List.lookup_nil, str_beq, insOf, not_true_eq_false, gok0]
      exact fz_optS (w := none) hlow k
theorem image_wp {Q : D → S → Prop} {E : D → S → Prop} (hb : Good l true body) (hf : Good l false fin) (hlow : Low 4 A1 A2 A3 A4) {t : List Char} (ht : t.length ≤ 1000)
    (k : Q (optT (img l body fin t st0)) [A1, A2, A3, A4]) :
    wp (f_text_image [rcD l body fin, .str (tx t)] [A1, A2, A3, A4]) Q E := by
  refine wp_mkFz ((wp_fn (n := 2) (tot := 4) (m := m_text_image) rfl).mpr ?_)
  show wS (m_text_image [some (rcD l body fin), some (.str (tx t)), none, none] _) _
  unfold m_text_image c_FLAGS d_FLAGS
  try simp only [wp_rep, wp_meth, w_lenSo, w_tupT, w_tupL, List.length_map, wp_ok, wp_bad, wp_bind, wS_ok, wS_bad, wS_cons, wS_nil, wS_pass, wS_break, wS_cont, wS_never, wS_set, wS_expr, wS_ret, wS_retN, wS_if, wS_asg, wS_aug, wS_for, wp_lc, wp_m1, wp_m2, wp_mN, wp_aNil, wp_aCons, wp_mC, wp_var, wp_if2, wp_and2, wp_or2, wp_not, wp_chain2, isBl_bl, andK_p, orK_p, andV_p, orV_p, iteK_p, andK_t, andK_f, orK_t, orK_f, andV_t, andV_f, orV_t, orV_f, iteK_t, iteK_f, wp_tTru2, dTru_bl, dTru_lst, dTru_int, dTru_non, wp_mt, wp_get, wp_isi, wp_fld, wp_sl, wp_oNone, wp_oSome, wp_tBool, wp_tNot, wp_tAnd2, wp_tOr2, wp_tAll, wp_gSlot, wp_gsNil, wp_gsCons, wp_gTup, wp_gSub, wp_iAny, wp_iSeq, wp_iTup, wp_iStr, wp_iRange1, wp_iRange2, wp_iZip, wS_fld, wp_make, seqQ, rtQ, turnQ, List.getElem?_cons_zero, List.getElem?_cons_succ, List.set_cons_zero, List.set_cons_succ, wipeD, if_true, if_false, Bool.false_eq_true, Bool.true_eq_false, reduceIte, w_add, w_iadd, w_iaddS, w_addS, w_addL, w_addT, w_sub, w_mul, w_mod, w_fdiv, w_pow, w_neg, w_lt, w_le, w_gt, w_ge, w_eqI, w_neI, w_eqT, w_neT, w_isN, w_isnotN, w_isB, w_isNB, w_len, w_lenT, w_int, w_intB, w_abs, w_min, w_max, w_tup, w_lst, w_new, w_list, w_listN, w_ix, w_ixT, w_ixD, w_inT1, w_notinT1, w_inT2, w_notinT2, w_inT3, w_notinT3, w_inT4, w_notinT4, w_inT5, w_notinT5, w_inT6, w_notinT6, w_inT7, w_notinT7, w_inT8, w_notinT8, w_sl1, at_0, at_1, at_2, at_3, at_4, at_5, hasTy_list, hasTy_str, isNonD, flatD, sEq_T, List.all_cons, List.all_nil, List.any_cons, List.any_nil, Bool.and_true, Bool.true_and, Bool.or_false, Bool.or_true, Bool.true_or, Bool.false_or, Bool.not_true, Bool.not_false, List.length_cons, List.length_nil, Nat.zero_add, Nat.reduceAdd, line_eq, true_and, and_true, String.reduceBEq, Int.reduceBEq, decide_true, decide_false, Int.reduceLT, Int.reduceLE, beq_self_eq_true, Nat.reduceLeDiff, wS_raise, wp_xinit, wp_sets0, wp_sets1, wp_fs, wp_xf, wp_xis, hdQ, setO, List.map_cons, List.map_nil, tabF_cons, tabF_nil, lview, w_inU1, w_inU2, w_inU3, w_inU4, w_notinU1, w_notinU2, w_notinU3, w_notinU4, wp_lcN, and_self, or_true, true_or, or_false, false_or, not_true_eq_false, not_false_eq_true, ne_eq, reduceCtorEq, List.cons.injEq, Bool.and_false, Bool.false_and, Bool.and_self, Bool.or_self, List.mem_cons, List.not_mem_nil, isSub, ty_tup, ty_lst, ty_int, ty_bl, ty_str, ty_non, nb, Bool.and_eq_true, Bool.or_eq_true, decide_eq_true_eq, beq_iff_eq, Int.cast_ofNat_Int, List.lookup_cons, List.lookup_nil, str_beq, insOf, not_true_eq_false, gok0]
  refine ⟨by decide, ?_⟩
  refine init_sp ?_
  rw [tx_chars]
  exact ⟨rfl, image_loop hb hf hlow t t 0 st0 none sk0 (by omega) k⟩
end
end
end K11
namespace K11
open PySem PySem.Spec PyProof.Rows L2 Pm
noncomputable section
/-! ### what is drawn -/
section
variable {s t : S} {Q : D → S → Prop} {E : D → S → Prop} {ρ : Rho} {l : List Char}
theorem tk {m : Int} (h : Dk s t) (hm : 0 < m) (k : ∀ v s', 0 ≤ v → v < m → Dk s' t → Q (.int v) s') : wp (f_law_take [.ref 0, .int m] s) Q E := take_wp h hm k
def words : List String := ["sign", "sign", "sign", "echo", "echo", "keep", "keep", "kept", "kept", "pay", "pay", "write", "write", "raise", "raise", "lower", "up", "up", "down", "skip", "next", "lose"]
theorem split_words : dSplit (.str (Str.ofString "sign sign sign echo echo keep keep kept kept pay pay write write raise raise lower up up down skip next" ++ Str.ofString " lose")) [.str (Str.ofString " ")] s = .ok (.lst (words.map fun z => .str (Str.ofString z))) s := by
  have e0 : Str.ofString "sign sign sign echo echo keep keep kept kept pay pay write write raise raise lower up up down skip next" ++ Str.ofString " lose" = Str.ofString "sign sign sign echo echo keep keep kept kept pay pay write write raise raise lower up up down skip next lose" := by decide +kernel
  have e : Txt.split (Str.ofString "sign sign sign echo echo keep keep kept kept pay pay write write raise raise lower up up down skip next lose") (Str.ofString " ") = words.map Str.ofString := by decide +kernel
  rw [e0]
  unfold dSplit
  simp only [e, List.map_map]
  rw [if_pos (by simp only [ofStr_len, line_eq]; decide)]
  rfl
theorem order_wp {b : Bool} {h : Int} (hd : Dk s t) (h0 : 0 ≤ h) (hl : l.length ≤ 100) (k : ∀ (o : TO) s', o.ok l b h → Dk s' t → Q o.d s') : wp (f_law_text_order [.ref 0, .str (tx l), .int h, .bl b] s) Q E := by
  refine (wp_fn (n := 4) (tot := 8) (m := m_law_text_order) rfl).mpr ?_
  show wS (m_law_text_order [some (.ref 0), some (.str (tx l)), some (.int h), some (.bl b), none, none, none, none] _) _ _
  unfold m_law_text_order
  try simp only [wp_rep, wp_meth, w_lenSo, w_tupT, w_tupL, List.length_map, wp_ok, wp_bad, wp_bind, wS_ok, wS_bad, wS_cons, wS_nil, wS_pass, wS_break, wS_cont, wS_never, wS_set, wS_expr, wS_ret, wS_retN, wS_if, wS_asg, wS_aug, wS_for, wp_lc, wp_m1, wp_m2, wp_mN, wp_aNil, wp_aCons, wp_mC, wp_var, wp_if2, wp_and2, wp_or2, wp_not, wp_chain2, isBl_bl, andK_p, orK_p, andV_p, orV_p, iteK_p, andK_t, andK_f, orK_t, orK_f, andV_t, andV_f, orV_t, orV_f, iteK_t, iteK_f, wp_tTru2, dTru_bl, dTru_lst, dTru_int, dTru_non, wp_mt, wp_get, wp_isi, wp_fld, wp_sl, wp_oNone, wp_oSome, wp_tBool, wp_tNot, wp_tAnd2, wp_tOr2, wp_tAll, wp_gSlot, wp_gsNil, wp_gsCons, wp_gTup, wp_gSub, wp_iAny, wp_iSeq, wp_iTup, wp_iStr, wp_iRange1, wp_iRange2, wp_iZip, wS_fld, wp_make, seqQ, rtQ, turnQ, List.getElem?_cons_zero, List.getElem?_cons_succ, List.set_cons_zero, List.set_cons_succ, wipeD, if_true, if_false, Bool.false_eq_true, Bool.true_eq_false, reduceIte, w_add, w_iadd, w_iaddS, w_addS, w_addL, w_addT, w_sub, w_mul, w_mod, w_fdiv, w_pow, w_neg, w_lt, w_le, w_gt, w_ge, w_eqI, w_neI, w_eqT, w_neT, w_isN, w_isnotN, w_isB, w_isNB, w_len, w_lenT, w_int, w_intB, w_abs, w_min, w_max, w_tup, w_lst, w_new, w_list, w_listN, w_ix, w_ixT, w_ixD, w_inT1, w_notinT1, w_inT2, w_notinT2, w_inT3, w_notinT3, w_inT4, w_notinT4, w_inT5, w_notinT5, w_inT6, w_notinT6, w_inT7, w_notinT7, w_inT8, w_notinT8, w_sl1, at_0, at_1, at_2, at_3, at_4, at_5, hasTy_list, hasTy_str, isNonD, flatD, sEq_T, List.all_cons, List.all_nil, List.any_cons, List.any_nil, Bool.and_true, Bool.true_and, Bool.or_false, Bool.or_true, Bool.true_or, Bool.false_or, Bool.not_true, Bool.not_false, List.length_cons, List.length_nil, Nat.zero_add, Nat.reduceAdd, line_eq, true_and, and_true, String.reduceBEq, Int.reduceBEq, decide_true, decide_false, Int.reduceLT, Int.reduceLE, beq_self_eq_true, Nat.reduceLeDiff, wS_raise, wp_xinit, wp_sets0, wp_sets1, wp_fs, wp_xf, wp_xis, hdQ, setO, List.map_cons, List.map_nil, tabF_cons, tabF_nil, lview, w_inU1, w_inU2, w_inU3, w_inU4, w_notinU1, w_notinU2, w_notinU3, w_notinU4, wp_lcN, and_self, or_true, true_or, or_false, false_or, not_true_eq_false, not_false_eq_true, ne_eq, reduceCtorEq, List.cons.injEq, Bool.and_false, Bool.false_and, Bool.and_self, Bool.or_self, List.mem_cons, List.not_mem_nil, isSub, ty_tup, ty_lst, ty_int, ty_bl, ty_str, ty_non, nb, Bool.and_eq_true, Bool.or_eq_true, decide_eq_true_eq, beq_iff_eq, Int.cast_ofNat_Int, List.lookup_cons, List.lookup_nil, str_beq, insOf, not_true_eq_false, gok0]
  rw [ofStr_len, ofStr_len, split_words]
  refine ⟨by decide, ?_⟩
  try simp only [wp_rep, wp_meth, w_lenSo, w_tupT, w_tupL, List.length_map, wp_ok, wp_bad, wp_bind, wS_ok, wS_bad, wS_cons, wS_nil, wS_pass, wS_break, wS_cont, wS_never, wS_set, wS_expr, wS_ret, wS_retN, wS_if, wS_asg, wS_aug, wS_for, wp_lc, wp_m1, wp_m2, wp_mN, wp_aNil, wp_aCons, wp_mC, wp_var, wp_if2, wp_and2, wp_or2, wp_not, wp_chain2, isBl_bl, andK_p, orK_p, andV_p, orV_p, iteK_p, andK_t, andK_f, orK_t, orK_f, andV_t, andV_f, orV_t, orV_f, iteK_t, iteK_f, wp_tTru2, dTru_bl, dTru_lst, dTru_int, dTru_non, wp_mt, wp_get, wp_isi, wp_fld, wp_sl, wp_oNone, wp_oSome, wp_tBool, wp_tNot, wp_tAnd2, wp_tOr2, wp_tAll, wp_gSlot, wp_gsNil, wp_gsCons, wp_gTup, wp_gSub, wp_iAny, wp_iSeq, wp_iTup, wp_iStr, wp_iRange1, wp_iRange2, wp_iZip, wS_fld, wp_make, seqQ, rtQ, turnQ, List.getElem?_cons_zero, List.getElem?_cons_succ, List.set_cons_zero, List.set_cons_succ, wipeD, if_true, if_false, Bool.false_eq_true, Bool.true_eq_false, reduceIte, w_add, w_iadd, w_iaddS, w_addS, w_addL, w_addT, w_sub, w_mul, w_mod, w_fdiv, w_pow, w_neg, w_lt, w_le, w_gt, w_ge, w_eqI, w_neI, w_eqT, w_neT, w_isN, w_isnotN, w_isB, w_isNB, w_len, w_lenT, w_int, w_intB, w_abs, w_min, w_max, w_tup, w_lst, w_new, w_list, w_listN, w_ix, w_ixT, w_ixD, w_inT1, w_notinT1, w_inT2, w_notinT2, w_inT3, w_notinT3, w_inT4, w_notinT4, w_inT5, w_notinT5, w_inT6, w_notinT6, w_inT7, w_notinT7, w_inT8, w_notinT8, w_sl1, at_0, at_1, at_2, at_3, at_4, at_5, hasTy_list, hasTy_str, isNonD, flatD, sEq_T, List.all_cons, List.all_nil, List.any_cons, List.any_nil, Bool.and_true, Bool.true_and, Bool.or_false, Bool.or_true, Bool.true_or, Bool.false_or, Bool.not_true, Bool.not_false, List.length_cons, List.length_nil, Nat.zero_add, Nat.reduceAdd, line_eq, true_and, and_true, String.reduceBEq, Int.reduceBEq, decide_true, decide_false, Int.reduceLT, Int.reduceLE, beq_self_eq_true, Nat.reduceLeDiff, wS_raise, wp_xinit, wp_sets0, wp_sets1, wp_fs, wp_xf, wp_xis, hdQ, setO, List.map_cons, List.map_nil, tabF_cons, tabF_nil, lview, w_inU1, w_inU2, w_inU3, w_inU4, w_notinU1, w_notinU2, w_notinU3, w_notinU4, wp_lcN, and_self, or_true, true_or, or_false, false_or, not_true_eq_false, not_false_eq_true, ne_eq, reduceCtorEq, List.cons.injEq, Bool.and_false, Bool.false_and, Bool.and_self, Bool.or_self, List.mem_cons, List.not_mem_nil, isSub, ty_tup, ty_lst, ty_int, ty_bl, ty_str, ty_non, nb, Bool.and_eq_true, Bool.or_eq_true, decide_eq_true_eq, beq_iff_eq, Int.cast_ofNat_Int, List.lookup_cons, List.lookup_nil, str_beq, insOf, not_true_eq_false, gok0]
  refine tk hd (by decide) fun v s1 v0 v1 h1 => ?_
  refine ix_any v0 v1 fun w hw => ?_
  obtain ⟨z, hz, rfl⟩ := List.mem_map.mp hw
  try simp only [wp_rep, wp_meth, w_lenSo, w_tupT, w_tupL, List.length_map, wp_ok, wp_bad, wp_bind, wS_ok, wS_bad, wS_cons, wS_nil, wS_pass, wS_break, wS_cont, wS_never, wS_set, wS_expr, wS_ret, wS_retN, wS_if, wS_asg, wS_aug, wS_for, wp_lc, wp_m1, wp_m2, wp_mN, wp_aNil, wp_aCons, wp_mC, wp_var, wp_if2, wp_and2, wp_or2, wp_not, wp_chain2, isBl_bl, andK_p, orK_p, andV_p, orV_p, iteK_p, andK_t, andK_f, orK_t, orK_f, andV_t, andV_f, orV_t, orV_f, iteK_t, iteK_f, wp_tTru2, dTru_bl, dTru_lst, dTru_int, dTru_non, wp_mt, wp_get, wp_isi, wp_fld, wp_sl, wp_oNone, wp_oSome, wp_tBool, wp_tNot, wp_tAnd2, wp_tOr2, wp_tAll, wp_gSlot, wp_gsNil, wp_gsCons, wp_gTup, wp_gSub, wp_iAny, wp_iSeq, wp_iTup, wp_iStr, wp_iRange1, wp_iRange2, wp_iZip, wS_fld, wp_make, seqQ, rtQ, turnQ, List.getElem?_cons_zero, List.getElem?_cons_succ, List.set_cons_zero, List.set_cons_succ, wipeD, if_true, if_false, Bool.false_eq_true, Bool.true_eq_false, reduceIte, w_add, w_iadd, w_iaddS, w_addS, w_addL, w_addT, w_sub, w_mul, w_mod, w_fdiv, w_pow, w_neg, w_lt, w_le, w_gt, w_ge, w_eqI, w_neI, w_eqT, w_neT, w_isN, w_isnotN, w_isB, w_isNB, w_len, w_lenT, w_int, w_intB, w_abs, w_min, w_max, w_tup, w_lst, w_new, w_list, w_listN, w_ix, w_ixT, w_ixD, w_inT1, w_notinT1, w_inT2, w_notinT2, w_inT3, w_notinT3, w_inT4, w_notinT4, w_inT5, w_notinT5, w_inT6, w_notinT6, w_inT7, w_notinT7, w_inT8, w_notinT8, w_sl1, at_0, at_1, at_2, at_3, at_4, at_5, hasTy_list, hasTy_str, isNonD, flatD, sEq_T, List.all_cons, List.all_nil, List.any_cons, List.any_nil, Bool.and_true, Bool.true_and, Bool.or_false, Bool.or_true, Bool.true_or, Bool.false_or, Bool.not_true, Bool.not_false, List.length_cons, List.length_nil, Nat.zero_add, Nat.reduceAdd, line_eq, true_and, and_true, String.reduceBEq, Int.reduceBEq, decide_true, decide_false, Int.reduceLT, Int.reduceLE, beq_self_eq_true, Nat.reduceLeDiff, wS_raise, wp_xinit, wp_sets0, wp_sets1, wp_fs, wp_xf, wp_xis, hdQ, setO, List.map_cons, List.map_nil, tabF_cons, tabF_nil, lview, w_inU1, w_inU2, w_inU3, w_inU4, w_notinU1, w_notinU2, w_notinU3, w_notinU4, wp_lcN, and_self, or_true, true_or, or_false, false_or, not_true_eq_false, not_false_eq_true, ne_eq, reduceCtorEq, List.cons.injEq, Bool.and_false, Bool.false_and, Bool.and_self, Bool.or_self, List.mem_cons, List.not_mem_nil, isSub, ty_tup, ty_lst, ty_int, ty_bl, ty_str, ty_non, nb, Bool.and_eq_true, Bool.or_eq_true, decide_eq_true_eq, beq_iff_eq, Int.cast_ofNat_Int, List.lookup_cons, List.lookup_nil, str_beq, insOf, not_true_eq_false, gok0]
  refine tk h1 (by decide) fun v2 s2 _ _ h2 => ?_
  try simp only [wp_rep, wp_meth, w_lenSo, w_tupT, w_tupL, List.length_map, wp_ok, wp_bad, wp_bind, wS_ok, wS_bad, wS_cons, wS_nil, wS_pass, wS_break, wS_cont, wS_never, wS_set, wS_expr, wS_ret, wS_retN, wS_if, wS_asg, wS_aug, wS_for, wp_lc, wp_m1, wp_m2, wp_mN, wp_aNil, wp_aCons, wp_mC, wp_var, wp_if2, wp_and2, wp_or2, wp_not, wp_chain2, isBl_bl, andK_p, orK_p, andV_p, orV_p, iteK_p, andK_t, andK_f, orK_t, orK_f, andV_t, andV_f, orV_t, orV_f, iteK_t, iteK_f, wp_tTru2, dTru_bl, dTru_lst, dTru_int, dTru_non, wp_mt, wp_get, wp_isi, wp_fld, wp_sl, wp_oNone, wp_oSome, wp_tBool, wp_tNot, wp_tAnd2, wp_tOr2, wp_tAll, wp_gSlot, wp_gsNil, wp_gsCons, wp_gTup, wp_gSub, wp_iAny, wp_iSeq, wp_iTup, wp_iStr, wp_iRange1, wp_iRange2, wp_iZip, wS_fld, wp_make, seqQ, rtQ, turnQ, List.getElem?_cons_zero, List.getElem?_cons_succ, List.set_cons_zero, List.set_cons_succ, wipeD, if_true, if_false, Bool.false_eq_true, Bool.true_eq_false, reduceIte, w_add, w_iadd, w_iaddS, w_addS, w_addL, w_addT, w_sub, w_mul, w_mod, w_fdiv, w_pow, w_neg, w_lt, w_le, w_gt, w_ge, w_eqI, w_neI, w_eqT, w_neT, w_isN, w_isnotN, w_isB, w_isNB, w_len, w_lenT, w_int, w_intB, w_abs, w_min, w_max, w_tup, w_lst, w_new, w_list, w_listN, w_ix, w_ixT, w_ixD, w_inT1, w_notinT1, w_inT2, w_notinT2, w_inT3, w_notinT3, w_inT4, w_notinT4, w_inT5, w_notinT5, w_inT6, w_notinT6, w_inT7, w_notinT7, w_inT8, w_notinT8, w_sl1, at_0, at_1, at_2, at_3, at_4, at_5, hasTy_list, hasTy_str, isNonD, flatD, sEq_T, List.all_cons, List.all_nil, List.any_cons, List.any_nil, Bool.and_true, Bool.true_and, Bool.or_false, Bool.or_true, Bool.true_or, Bool.false_or, Bool.not_true, Bool.not_false, List.length_cons, List.length_nil, Nat.zero_add, Nat.reduceAdd, line_eq, true_and, and_true, String.reduceBEq, Int.reduceBEq, decide_true, decide_false, Int.reduceLT, Int.reduceLE, beq_self_eq_true, Nat.reduceLeDiff, wS_raise, wp_xinit, wp_sets0, wp_sets1, wp_fs, wp_xf, wp_xis, hdQ, setO, List.map_cons, List.map_nil, tabF_cons, tabF_nil, lview, w_inU1, w_inU2, w_inU3, w_inU4, w_notinU1, w_notinU2, w_notinU3, w_notinU4, wp_lcN, and_self, or_true, true_or, or_false, false_or, not_true_eq_false, not_false_eq_true, ne_eq, reduceCtorEq, List.cons.injEq, Bool.and_false, Bool.false_and, Bool.and_self, Bool.or_self, List.mem_cons, List.not_mem_nil, isSub, ty_tup, ty_lst, ty_int, ty_bl, ty_str, ty_non, nb, Bool.and_eq_true, Bool.or_eq_true, decide_eq_true_eq, beq_iff_eq, Int.cast_ofNat_Int, List.lookup_cons, List.lookup_nil, str_beq, insOf, not_true_eq_false, gok0]
  refine tk h2 (by decide) fun v3 s3 w0 w1 h3 => ?_
  refine ix_any w0 w1 fun d hd1 => ?_
  have hk : ∃ sk : Int, d = .int sk ∧ 0 ≤ sk := by
    simp only [List.mem_cons, List.not_mem_nil, or_false] at hd1
    rcases hd1 with rfl | rfl | rfl | rfl | rfl | rfl <;> exact ⟨_, rfl, by omega⟩
  obtain ⟨sk0, rfl, hsk0⟩ := hk
  try simp only [wp_rep, wp_meth, w_lenSo, w_tupT, w_tupL, List.length_map, wp_ok, wp_bad, wp_bind, wS_ok, wS_bad, wS_cons, wS_nil, wS_pass, wS_break, wS_cont, wS_never, wS_set, wS_expr, wS_ret, wS_retN, wS_if, wS_asg, wS_aug, wS_for, wp_lc, wp_m1, wp_m2, wp_mN, wp_aNil, wp_aCons, wp_mC, wp_var, wp_if2, wp_and2, wp_or2, wp_not, wp_chain2, isBl_bl, andK_p, orK_p, andV_p, orV_p, iteK_p, andK_t, andK_f, orK_t, orK_f, andV_t, andV_f, orV_t, orV_f, iteK_t, iteK_f, wp_tTru2, dTru_bl, dTru_lst, dTru_int, dTru_non, wp_mt, wp_get, wp_isi, wp_fld, wp_sl, wp_oNone, wp_oSome, wp_tBool, wp_tNot, wp_tAnd2, wp_tOr2, wp_tAll, wp_gSlot, wp_gsNil, wp_gsCons, wp_gTup, wp_gSub, wp_iAny, wp_iSeq, wp_iTup, wp_iStr, wp_iRange1, wp_iRange2, wp_iZip, wS_fld, wp_make, seqQ, rtQ, turnQ, List.getElem?_cons_zero, List.getElem?_cons_succ, List.set_cons_zero, List.set_cons_succ, wipeD, if_true, if_false, Bool.false_eq_true, Bool.true_eq_false, reduceIte, w_add, w_iadd, w_iaddS, w_addS, w_addL, w_addT, w_sub, w_mul, w_mod, w_fdiv, w_pow, w_neg, w_lt, w_le, w_gt, w_ge, w_eqI, w_neI, w_eqT, w_neT, w_isN, w_isnotN, w_isB, w_isNB, w_len, w_lenT, w_int, w_intB, w_abs, w_min, w_max, w_tup, w_lst, w_new, w_list, w_listN, w_ix, w_ixT, w_ixD, w_inT1, w_notinT1, w_inT2, w_notinT2, w_inT3, w_notinT3, w_inT4, w_notinT4, w_inT5, w_notinT5, w_inT6, w_notinT6, w_inT7, w_notinT7, w_inT8, w_notinT8, w_sl1, at_0, at_1, at_2, at_3, at_4, at_5, hasTy_list, hasTy_str, isNonD, flatD, sEq_T, List.all_cons, List.all_nil, List.any_cons, List.any_nil, Bool.and_true, Bool.true_and, Bool.or_false, Bool.or_true, Bool.true_or, Bool.false_or, Bool.not_true, Bool.not_false, List.length_cons, List.length_nil, Nat.zero_add, Nat.reduceAdd, line_eq, true_and, and_true, String.reduceBEq, Int.reduceBEq, decide_true, decide_false, Int.reduceLT, Int.reduceLE, beq_self_eq_true, Nat.reduceLeDiff, wS_raise, wp_xinit, wp_sets0, wp_sets1, wp_fs, wp_xf, wp_xis, hdQ, setO, List.map_cons, List.map_nil, tabF_cons, tabF_nil, lview, w_inU1, w_inU2, w_inU3, w_inU4, w_notinU1, w_notinU2, w_notinU3, w_notinU4, wp_lcN, and_self, or_true, true_or, or_false, false_or, not_true_eq_false, not_false_eq_true, ne_eq, reduceCtorEq, List.cons.injEq, Bool.and_false, Bool.false_and, Bool.and_self, Bool.or_self, List.mem_cons, List.not_mem_nil, isSub, ty_tup, ty_lst, ty_int, ty_bl, ty_str, ty_non, nb, Bool.and_eq_true, Bool.or_eq_true, decide_eq_true_eq, beq_iff_eq, Int.cast_ofNat_Int, List.lookup_cons, List.lookup_nil, str_beq, insOf, not_true_eq_false, gok0]
  obtain ⟨sk, hsk, hs0, hs1⟩ : ∃ sk, (if sk0 < h then sk0 else h) = sk ∧ 0 ≤ sk ∧ sk ≤ h := ⟨_, rfl, by split <;> omega, by split <;> omega⟩
  rw [hsk]
  refine tk h3 (by decide) fun v4 s4 y0 y1 h4 => ?_
  refine ix_any y0 y1 fun d2 hd2 => ?_
  have hf : ∃ f : Int, d2 = .int f ∧ fg f := by
    simp only [List.mem_cons, List.not_mem_nil, or_false] at hd2
    rcases hd2 with rfl | rfl | rfl | rfl | rfl | rfl <;> exact ⟨_, rfl, by unfold fg; omega⟩
  obtain ⟨f, rfl, hfg⟩ := hf
  try simp only [wp_rep, wp_meth, w_lenSo, w_tupT, w_tupL, List.length_map, wp_ok, wp_bad, wp_bind, wS_ok, wS_bad, wS_cons, wS_nil, wS_pass, wS_break, wS_cont, wS_never, wS_set, wS_expr, wS_ret, wS_retN, wS_if, wS_asg, wS_aug, wS_for, wp_lc, wp_m1, wp_m2, wp_mN, wp_aNil, wp_aCons, wp_mC, wp_var, wp_if2, wp_and2, wp_or2, wp_not, wp_chain2, isBl_bl, andK_p, orK_p, andV_p, orV_p, iteK_p, andK_t, andK_f, orK_t, orK_f, andV_t, andV_f, orV_t, orV_f, iteK_t, iteK_f, wp_tTru2, dTru_bl, dTru_lst, dTru_int, dTru_non, wp_mt, wp_get, wp_isi, wp_fld, wp_sl, wp_oNone, wp_oSome, wp_tBool, wp_tNot, wp_tAnd2, wp_tOr2, wp_tAll, wp_gSlot, wp_gsNil, wp_gsCons, wp_gTup, wp_gSub, wp_iAny, wp_iSeq, wp_iTup, wp_iStr, wp_iRange1, wp_iRange2, wp_iZip, wS_fld, wp_make, seqQ, rtQ, turnQ, List.getElem?_cons_zero, List.getElem?_cons_succ, List.set_cons_zero, List.set_cons_succ, wipeD, if_true, if_false, Bool.false_eq_true, Bool.true_eq_false, reduceIte, w_add, w_iadd, w_iaddS, w_addS, w_addL, w_addT, w_sub, w_mul, w_mod, w_fdiv, w_pow, w_neg, w_lt, w_le, w_gt, w_ge, w_eqI, w_neI, w_eqT, w_neT, w_isN, w_isnotN, w_isB, w_isNB, w_len, w_lenT, w_int, w_intB, w_abs, w_min, w_max, w_tup, w_lst, w_new, w_list, w_listN, w_ix, w_ixT, w_ixD, w_inT1, w_notinT1, w_inT2, w_notinT2, w_inT3, w_notinT3, w_inT4, w_notinT4, w_inT5, w_notinT5, w_inT6, w_notinT6, w_inT7, w_notinT7, w_inT8, w_notinT8, w_sl1, at_0, at_1, at_2, at_3, at_4, at_5, hasTy_list, hasTy_str, isNonD, flatD, sEq_T, List.all_cons, List.all_nil, List.any_cons, List.any_nil, Bool.and_true, Bool.true_and, Bool.or_false, Bool.or_true, Bool.true_or, Bool.false_or, Bool.not_true, Bool.not_false, List.length_cons, List.length_nil, Nat.zero_add, Nat.reduceAdd, line_eq, true_and, and_true, String.reduceBEq, Int.reduceBEq, decide_true, decide_false, Int.reduceLT, Int.reduceLE, beq_self_eq_true, Nat.reduceLeDiff, wS_raise, wp_xinit, wp_sets0, wp_sets1, wp_fs, wp_xf, wp_xis, hdQ, setO, List.map_cons, List.map_nil, tabF_cons, tabF_nil, lview, w_inU1, w_inU2, w_inU3, w_inU4, w_notinU1, w_notinU2, w_notinU3, w_notinU4, wp_lcN, and_self, or_true, true_or, or_false, false_or, not_true_eq_false, not_false_eq_true, ne_eq, reduceCtorEq, List.cons.injEq, Bool.and_false, Bool.false_and, Bool.and_self, Bool.or_self, List.mem_cons, List.not_mem_nil, isSub, ty_tup, ty_lst, ty_int, ty_bl, ty_str, ty_non, nb, Bool.and_eq_true, Bool.or_eq_true, decide_eq_true_eq, beq_iff_eq, Int.cast_ofNat_Int, List.lookup_cons, List.lookup_nil, str_beq, insOf, not_true_eq_false, gok0]
  have xl : ∀ {s : S} {Q : D → S → Prop} {E : D → S → Prop}, wp (dLen [.str (tx l)] s) Q E = Q (.int l.length) s := fun {s Q E} => by
    rw [x_len]
    simp only [line_eq, show l.length ≤ 16777216 by omega, true_and]
  simp only [xl]
  try simp only [wp_rep, wp_meth, w_lenSo, w_tupT, w_tupL, List.length_map, wp_ok, wp_bad, wp_bind, wS_ok, wS_bad, wS_cons, wS_nil, wS_pass, wS_break, wS_cont, wS_never, wS_set, wS_expr, wS_ret, wS_retN, wS_if, wS_asg, wS_aug, wS_for, wp_lc, wp_m1, wp_m2, wp_mN, wp_aNil, wp_aCons, wp_mC, wp_var, wp_if2, wp_and2, wp_or2, wp_not, wp_chain2, isBl_bl, andK_p, orK_p, andV_p, orV_p, iteK_p, andK_t, andK_f, orK_t, orK_f, andV_t, andV_f, orV_t, orV_f, iteK_t, iteK_f, wp_tTru2, dTru_bl, dTru_lst, dTru_int, dTru_non, wp_mt, wp_get, wp_isi, wp_fld, wp_sl, wp_oNone, wp_oSome, wp_tBool, wp_tNot, wp_tAnd2, wp_tOr2, wp_tAll, wp_gSlot, wp_gsNil, wp_gsCons, wp_gTup, wp_gSub, wp_iAny, wp_iSeq, wp_iTup, wp_iStr, wp_iRange1, wp_iRange2, wp_iZip, wS_fld, wp_make, seqQ, rtQ, turnQ, List.getElem?_cons_zero, List.getElem?_cons_succ, List.set_cons_zero, List.set_cons_succ, wipeD, if_true, if_false, Bool.false_eq_true, Bool.true_eq_false, reduceIte, w_add, w_iadd, w_iaddS, w_addS, w_addL, w_addT, w_sub, w_mul, w_mod, w_fdiv, w_pow, w_neg, w_lt, w_le, w_gt, w_ge, w_eqI, w_neI, w_eqT, w_neT, w_isN, w_isnotN, w_isB, w_isNB, w_len, w_lenT, w_int, w_intB, w_abs, w_min, w_max, w_tup, w_lst, w_new, w_list, w_listN, w_ix, w_ixT, w_ixD, w_inT1, w_notinT1, w_inT2, w_notinT2, w_inT3, w_notinT3, w_inT4, w_notinT4, w_inT5, w_notinT5, w_inT6, w_notinT6, w_inT7, w_notinT7, w_inT8, w_notinT8, w_sl1, at_0, at_1, at_2, at_3, at_4, at_5, hasTy_list, hasTy_str, isNonD, flatD, sEq_T, List.all_cons, List.all_nil, List.any_cons, List.any_nil, Bool.and_true, Bool.true_and, Bool.or_false, Bool.or_true, Bool.true_or, Bool.false_or, Bool.not_true, Bool.not_false, List.length_cons, List.length_nil, Nat.zero_add, Nat.reduceAdd, line_eq, true_and, and_true, String.reduceBEq, Int.reduceBEq, decide_true, decide_false, Int.reduceLT, Int.reduceLE, beq_self_eq_true, Nat.reduceLeDiff, wS_raise, wp_xinit, wp_sets0, wp_sets1, wp_fs, wp_xf, wp_xis, hdQ, setO, List.map_cons, List.map_nil, tabF_cons, tabF_nil, lview, w_inU1, w_inU2, w_inU3, w_inU4, w_notinU1, w_notinU2, w_notinU3, w_notinU4, wp_lcN, and_self, or_true, true_or, or_false, false_or, not_true_eq_false, not_false_eq_true, ne_eq, reduceCtorEq, List.cons.injEq, Bool.and_false, Bool.false_and, Bool.and_self, Bool.or_self, List.mem_cons, List.not_mem_nil, isSub, ty_tup, ty_lst, ty_int, ty_bl, ty_str, ty_non, nb, Bool.and_eq_true, Bool.or_eq_true, decide_eq_true_eq, beq_iff_eq, Int.cast_ofNat_Int, List.lookup_cons, List.lookup_nil, str_beq, insOf, not_true_eq_false, gok0]
  have kpay : Q (.tup [.str (Str.ofString "pay")]) s4 := k .pay s4 trivial h4
  have letter : 0 < l.length → ∀ (X : D → S → Prop), (∀ c ∈ l, ∀ s', Dk s' t → X (.str (tx [c])) s') → ∀ E, wp (f_law_take [.ref 0, .int l.length] s4) (fun y s2 => wp (dIx (.str (tx l)) y s2) X E) E := fun h0 X hX E => by
    refine tk h4 (by omega) fun v5 s5 z0 z1 h5 => ?_
    obtain ⟨c, hc, _, hw⟩ := tx_at l z0 z1
    rw [hw (by rw [line_eq]; omega)]
    exact hX c hc s5 h5
  simp only [words, List.mem_cons, List.not_mem_nil, or_false] at hz
  rcases hz with rfl | rfl | rfl | rfl | rfl | rfl | rfl | rfl | rfl | rfl | rfl | rfl | rfl | rfl | rfl | rfl | rfl | rfl | rfl | rfl | rfl | rfl
  all_goals try simp only [wp_rep, wp_meth, w_lenSo, w_tupT, w_tupL, List.length_map, wp_ok, wp_bad, wp_bind, wS_ok, wS_bad, wS_cons, wS_nil, wS_pass, wS_break, wS_cont, wS_never, wS_set, wS_expr, wS_ret, wS_retN, wS_if, wS_asg, wS_aug, wS_for, wp_lc, wp_m1, wp_m2, wp_mN, wp_aNil, wp_aCons, wp_mC, wp_var, wp_if2, wp_and2, wp_or2, wp_not, wp_chain2, isBl_bl, andK_p, orK_p, andV_p, orV_p, iteK_p, andK_t, andK_f, orK_t, orK_f, andV_t, andV_f, orV_t, orV_f, iteK_t, iteK_f, wp_tTru2, dTru_bl, dTru_lst, dTru_int, dTru_non, wp_mt, wp_get, wp_isi, wp_fld, wp_sl, wp_oNone, wp_oSome, wp_tBool, wp_tNot, wp_tAnd2, wp_tOr2, wp_tAll, wp_gSlot, wp_gsNil, wp_gsCons, wp_gTup, wp_gSub, wp_iAny, wp_iSeq, wp_iTup, wp_iStr, wp_iRange1, wp_iRange2, wp_iZip, wS_fld, wp_make, seqQ, rtQ, turnQ, List.getElem?_cons_zero, List.getElem?_cons_succ, List.set_cons_zero, List.set_cons_succ, wipeD, if_true, if_false, Bool.false_eq_true, Bool.true_eq_false, reduceIte, w_add, w_iadd, w_iaddS, w_addS, w_addL, w_addT, w_sub, w_mul, w_mod, w_fdiv, w_pow, w_neg, w_lt, w_le, w_gt, w_ge, w_eqI, w_neI, w_eqT, w_neT, w_isN, w_isnotN, w_isB, w_isNB, w_len, w_lenT, w_int, w_intB, w_abs, w_min, w_max, w_tup, w_lst, w_new, w_list, w_listN, w_ix, w_ixT, w_ixD, w_inT1, w_notinT1, w_inT2, w_notinT2, w_inT3, w_notinT3, w_inT4, w_notinT4, w_inT5, w_notinT5, w_inT6, w_notinT6, w_inT7, w_notinT7, w_inT8, w_notinT8, w_sl1, at_0, at_1, at_2, at_3, at_4, at_5, hasTy_list, hasTy_str, isNonD, flatD, sEq_T, List.all_cons, List.all_nil, List.any_cons, List.any_nil, Bool.and_true, Bool.true_and, Bool.or_false, Bool.or_true, Bool.true_or, Bool.false_or, Bool.not_true, Bool.not_false, List.length_cons, List.length_nil, Nat.zero_add, Nat.reduceAdd, line_eq, true_and, and_true, String.reduceBEq, Int.reduceBEq, decide_true, decide_false, Int.reduceLT, Int.reduceLE, beq_self_eq_true, Nat.reduceLeDiff, wS_raise, wp_xinit, wp_sets0, wp_sets1, wp_fs, wp_xf, wp_xis, hdQ, setO, List.map_cons, List.map_nil, tabF_cons, tabF_nil, lview, w_inU1, w_inU2, w_inU3, w_inU4, w_notinU1, w_notinU2, w_notinU3, w_notinU4, wp_lcN, and_self, or_true, true_or, or_false, false_or, not_true_eq_false, not_false_eq_true, ne_eq, reduceCtorEq, List.cons.injEq, Bool.and_false, Bool.false_and, Bool.and_self, Bool.or_self, List.mem_cons, List.not_mem_nil, isSub, ty_tup, ty_lst, ty_int, ty_bl, ty_str, ty_non, nb, Bool.and_eq_true, Bool.or_eq_true, decide_eq_true_eq, beq_iff_eq, Int.cast_ofNat_Int, List.lookup_cons, List.lookup_nil, str_beq, insOf, not_true_eq_false, gok0]
  · split
    · exact kpay
    · refine letter (by omega) _ (fun c hc s' h' => ?_) _
      exact k (.sign c sk) s' ⟨hc, ⟨hs0, hs1⟩, by grind⟩ h'
  · split
    · exact kpay
    · refine letter (by omega) _ (fun c hc s' h' => ?_) _
      exact k (.sign c sk) s' ⟨hc, ⟨hs0, hs1⟩, by grind⟩ h'
  · split
    · exact kpay
    · refine letter (by omega) _ (fun c hc s' h' => ?_) _
      exact k (.sign c sk) s' ⟨hc, ⟨hs0, hs1⟩, by grind⟩ h'
  · split
    · exact kpay
    · exact k .echo s4 (show b = true by grind) h4
  · split
    · exact kpay
    · exact k .echo s4 (show b = true by grind) h4
  · split
    · exact kpay
    · exact k .keep s4 (show b = true by grind) h4
  · split
    · exact kpay
    · exact k .keep s4 (show b = true by grind) h4
  · split
    · exact kpay
    · refine letter (by omega) _ (fun c hc s' h' => ?_) _
      exact k (.kept c sk) s' ⟨hc, hs0, hs1⟩ h'
  · split
    · exact kpay
    · refine letter (by omega) _ (fun c hc s' h' => ?_) _
      exact k (.kept c sk) s' ⟨hc, hs0, hs1⟩ h'
  · exact kpay
  · exact kpay
  iterate 2
    · refine tk h4 (by decide) fun v5 s5 z0 z1 h5 => ?_
      refine ix_any z0 z1 fun d3 hd3 => ?_
      simp only [List.mem_cons, List.not_mem_nil, or_false] at hd3
      rcases hd3 with rfl | rfl | rfl | rfl | rfl
      · have := k (.write []) s5 (by show List.length _ ≤ 2; decide) h5; rwa [TO.d, TO.word, TO.args, tx_nil] at this
      · exact k (.write ['x']) s5 (by show List.length _ ≤ 2; decide) h5
      · exact k (.write ['y']) s5 (by show List.length _ ≤ 2; decide) h5
      · exact k (.write ['x', 'y']) s5 (by show List.length _ ≤ 2; decide) h5
      · exact k (.write ['a', 'b']) s5 (by show List.length _ ≤ 2; decide) h5
  · exact k (.raise f) s4 hfg h4
  · exact k (.raise f) s4 hfg h4
  · exact k (.lower f) s4 hfg h4
  · exact k (.up f sk) s4 ⟨hfg, hs0, hs1⟩ h4
  · exact k (.up f sk) s4 ⟨hfg, hs0, hs1⟩ h4
  · exact k (.down f sk) s4 ⟨hfg, hs0, hs1⟩ h4
  · exact k (.skip sk) s4 ⟨hs0, hs1⟩ h4
  · exact k .next s4 trivial h4
  · refine tk h4 (by decide) fun v5 s5 z0 z1 h5 => ?_
    try simp only [wp_rep, wp_meth, w_lenSo, w_tupT, w_tupL, List.length_map, wp_ok, wp_bad, wp_bind, wS_ok, wS_bad, wS_cons, wS_nil, wS_pass, wS_break, wS_cont, wS_never, wS_set, wS_expr, wS_ret, wS_retN, wS_if, wS_asg, wS_aug, wS_for, wp_lc, wp_m1, wp_m2, wp_mN, wp_aNil, wp_aCons, wp_mC, wp_var, wp_if2, wp_and2, wp_or2, wp_not, wp_chain2, isBl_bl, andK_p, orK_p, andV_p, orV_p, iteK_p, andK_t, andK_f, orK_t, orK_f, andV_t, andV_f, orV_t, orV_f, iteK_t, iteK_f, wp_tTru2, dTru_bl, dTru_lst, dTru_int, dTru_non, wp_mt, wp_get, wp_isi, wp_fld, wp_sl, wp_oNone, wp_oSome, wp_tBool, wp_tNot, wp_tAnd2, wp_tOr2, wp_tAll, wp_gSlot, wp_gsNil, wp_gsCons, wp_gTup, wp_gSub, wp_iAny, wp_iSeq, wp_iTup, wp_iStr, wp_iRange1, wp_iRange2, wp_iZip, wS_fld, wp_make, seqQ, rtQ, turnQ, List.getElem?_cons_zero, List.getElem?_cons_succ, List.set_cons_zero, List.set_cons_succ, wipeD, if_true, if_false, Bool.false_eq_true, Bool.true_eq_false, reduceIte, w_add, w_iadd, w_iaddS, w_addS, w_addL, w_addT, w_sub, w_mul, w_mod, w_fdiv, w_pow, w_neg, w_lt, w_le, w_gt, w_ge, w_eqI, w_neI, w_eqT, w_neT, w_isN, w_isnotN, w_isB, w_isNB, w_len, w_lenT, w_int, w_intB, w_abs, w_min, w_max, w_tup, w_lst, w_new, w_list, w_listN, w_ix, w_ixT, w_ixD, w_inT1, w_notinT1, w_inT2, w_notinT2, w_inT3, w_notinT3, w_inT4, w_notinT4, w_inT5, w_notinT5, w_inT6, w_notinT6, w_inT7, w_notinT7, w_inT8, w_notinT8, w_sl1, at_0, at_1, at_2, at_3, at_4, at_5, hasTy_list, hasTy_str, isNonD, flatD, sEq_T, List.all_cons, List.all_nil, List.any_cons, List.any_nil, Bool.and_true, Bool.true_and, Bool.or_false, Bool.or_true, Bool.true_or, Bool.false_or, Bool.not_true, Bool.not_false, List.length_cons, List.length_nil, Nat.zero_add, Nat.reduceAdd, line_eq, true_and, and_true, String.reduceBEq, Int.reduceBEq, decide_true, decide_false, Int.reduceLT, Int.reduceLE, beq_self_eq_true, Nat.reduceLeDiff, wS_raise, wp_xinit, wp_sets0, wp_sets1, wp_fs, wp_xf, wp_xis, hdQ, setO, List.map_cons, List.map_nil, tabF_cons, tabF_nil, lview, w_inU1, w_inU2, w_inU3, w_inU4, w_notinU1, w_notinU2, w_notinU3, w_notinU4, wp_lcN, and_self, or_true, true_or, or_false, false_or, not_true_eq_false, not_false_eq_true, ne_eq, reduceCtorEq, List.cons.injEq, Bool.and_false, Bool.false_and, Bool.and_self, Bool.or_self, List.mem_cons, List.not_mem_nil, isSub, ty_tup, ty_lst, ty_int, ty_bl, ty_str, ty_non, nb, Bool.and_eq_true, Bool.or_eq_true, decide_eq_true_eq, beq_iff_eq, Int.cast_ofNat_Int, List.lookup_cons, List.lookup_nil, str_beq, insOf, not_true_eq_false, gok0]
    split
    · exact k (.write ['z']) s5 (by show List.length _ ≤ 2; decide) h5
    · exact k .lose s5 trivial h5
def letrs : List (List Char) := [['a'], ['a', 'b'], ['b', 'a'], ['c', 'a', 'b'], ['d', 'a', 'b', 'c'], []]
theorem orders_wp {b : Bool} {n : Nat} {all : List D} {Q : List D → S → Prop} {v2 v4 v5 : Option D} (hd : Dk s t) (hn : n ≤ 31) (hl : l.length ≤ 100) (k : ∀ os s', Good l b os → Dk s' t → Q (os.map TO.d) s') :
    wp (mapL none all (gSlot 5) tAll (mN f_law_text_order (aCons (mVar 0) (aCons (mVar 1) (aCons (m2 dSub (m2 dSub (mVar 3) (mVar 5)) (mC (.int 1))) (aCons (mC (.bl b)) aNil))))) (rng 0 n) [some (.ref 0), some (.str (tx l)), v2, some (.int n), v4, v5] s) Q := by
  refine wp_mapN (I := fun rest acc s' => ∃ os : List TO, acc = os.map TO.d ∧ os.length ≤ n ∧ rest = (rng 0 n).drop os.length ∧ Dk s' t ∧ ∀ (i : Nat) (o : TO), os[i]? = some o → o.ok l b ((n : Int) - i - 1)) ?_ _ [] s ⟨[], rfl, by simp, rfl, hd, fun i o h => by simp at h⟩ ?_
  · rintro x rest a s1 ⟨os, rfl, h1, h2, h3, h4⟩
    have hlt : os.length < n := by
      have := congrArg List.length h2
      simp [rng] at this
      omega
    have hx : x = .int (0 + (os.length : Nat)) ∧ rest = (rng 0 n).drop (os.length + 1) := by
      have e : (rng 0 n).drop os.length = (rng 0 n)[os.length]'(by simp [rng]; omega) :: (rng 0 n).drop (os.length + 1) := List.drop_eq_getElem_cons _
      rw [e] at h2
      obtain ⟨rfl, rfl⟩ := List.cons.inj h2
      exact ⟨by simp [rng], rfl⟩
    obtain ⟨rfl, rfl⟩ := hx
    try simp only [wp_rep, wp_meth, w_lenSo, w_tupT, w_tupL, List.length_map, wp_ok, wp_bad, wp_bind, wS_ok, wS_bad, wS_cons, wS_nil, wS_pass, wS_break, wS_cont, wS_never, wS_set, wS_expr, wS_ret, wS_retN, wS_if, wS_asg, wS_aug, wS_for, wp_lc, wp_m1, wp_m2, wp_mN, wp_aNil, wp_aCons, wp_mC, wp_var, wp_if2, wp_and2, wp_or2, wp_not, wp_chain2, isBl_bl, andK_p, orK_p, andV_p, orV_p, iteK_p, andK_t, andK_f, orK_t, orK_f, andV_t, andV_f, orV_t, orV_f, iteK_t, iteK_f, wp_tTru2, dTru_bl, dTru_lst, dTru_int, dTru_non, wp_mt, wp_get, wp_isi, wp_fld, wp_sl, wp_oNone, wp_oSome, wp_tBool, wp_tNot, wp_tAnd2, wp_tOr2, wp_tAll, wp_gSlot, wp_gsNil, wp_gsCons, wp_gTup, wp_gSub, wp_iAny, wp_iSeq, wp_iTup, wp_iStr, wp_iRange1, wp_iRange2, wp_iZip, wS_fld, wp_make, seqQ, rtQ, turnQ, List.getElem?_cons_zero, List.getElem?_cons_succ, List.set_cons_zero, List.set_cons_succ, wipeD, if_true, if_false, Bool.false_eq_true, Bool.true_eq_false, reduceIte, w_add, w_iadd, w_iaddS, w_addS, w_addL, w_addT, w_sub, w_mul, w_mod, w_fdiv, w_pow, w_neg, w_lt, w_le, w_gt, w_ge, w_eqI, w_neI, w_eqT, w_neT, w_isN, w_isnotN, w_isB, w_isNB, w_len, w_lenT, w_int, w_intB, w_abs, w_min, w_max, w_tup, w_lst, w_new, w_list, w_listN, w_ix, w_ixT, w_ixD, w_inT1, w_notinT1, w_inT2, w_notinT2, w_inT3, w_notinT3, w_inT4, w_notinT4, w_inT5, w_notinT5, w_inT6, w_notinT6, w_inT7, w_notinT7, w_inT8, w_notinT8, w_sl1, at_0, at_1, at_2, at_3, at_4, at_5, hasTy_list, hasTy_str, isNonD, flatD, sEq_T, List.all_cons, List.all_nil, List.any_cons, List.any_nil, Bool.and_true, Bool.true_and, Bool.or_false, Bool.or_true, Bool.true_or, Bool.false_or, Bool.not_true, Bool.not_false, List.length_cons, List.length_nil, Nat.zero_add, Nat.reduceAdd, line_eq, true_and, and_true, String.reduceBEq, Int.reduceBEq, decide_true, decide_false, Int.reduceLT, Int.reduceLE, beq_self_eq_true, Nat.reduceLeDiff, wS_raise, wp_xinit, wp_sets0, wp_sets1, wp_fs, wp_xf, wp_xis, hdQ, setO, List.map_cons, List.map_nil, tabF_cons, tabF_nil, lview, w_inU1, w_inU2, w_inU3, w_inU4, w_notinU1, w_notinU2, w_notinU3, w_notinU4, wp_lcN, and_self, or_true, true_or, or_false, false_or, not_true_eq_false, not_false_eq_true, ne_eq, reduceCtorEq, List.cons.injEq, Bool.and_false, Bool.false_and, Bool.and_self, Bool.or_self, List.mem_cons, List.not_mem_nil, isSub, ty_tup, ty_lst, ty_int, ty_bl, ty_str, ty_non, nb, Bool.and_eq_true, Bool.or_eq_true, decide_eq_true_eq, beq_iff_eq, Int.cast_ofNat_Int, List.lookup_cons, List.lookup_nil, str_beq, insOf, not_true_eq_false, gok0]
    refine order_wp h3 (by omega) hl fun o s2 ho hd2 => ?_
    refine ⟨os ++ [o], by simp, by simp; omega, by simp, hd2, fun i o' hi => ?_⟩
    by_cases hio : i < os.length
    · rw [List.getElem?_append_left hio] at hi
      exact h4 i o' hi
    · rw [List.getElem?_append_right (by omega)] at hi
      have : i - os.length = 0 := by
        have := (List.getElem?_eq_some_iff.mp hi).1
        simp at this
        omega
      rw [this] at hi
      cases hi
      have e : (n : Int) - (i : Nat) - 1 = (n : Int) - (0 + (os.length : Nat)) - 1 := by omega
      rw [e]
      exact ho
  · rintro a' s1 ⟨os, e, h1, h2, h3, h4⟩
    rw [List.nil_append] at e
    subst e
    have hlen : os.length = n := by
      have := congrArg List.length h2
      simp [rng] at this
      omega
    exact k os s1 ⟨by omega, fun i o hi => by have := h4 i o hi; rwa [← hlen] at this⟩ h3
theorem recipe_wp (hd : Dk s t) (k : ∀ l body fin s', l ∈ letrs → Good l true body → Good l false fin → Dk s' t → Q (.tup [.str (tx l), .lst (body.map TO.d), .lst (fin.map TO.d)]) s') : wp (f_law_text_recipe [.ref 0] s) Q E := by
  refine (wp_fn (n := 1) (tot := 6) (m := m_law_text_recipe) rfl).mpr ?_
  show wS (m_law_text_recipe [some (.ref 0), none, none, none, none, none] _) _ _
  unfold m_law_text_recipe
  try simp only [wp_rep, wp_meth, w_lenSo, w_tupT, w_tupL, List.length_map, wp_ok, wp_bad, wp_bind, wS_ok, wS_bad, wS_cons, wS_nil, wS_pass, wS_break, wS_cont, wS_never, wS_set, wS_expr, wS_ret, wS_retN, wS_if, wS_asg, wS_aug, wS_for, wp_lc, wp_m1, wp_m2, wp_mN, wp_aNil, wp_aCons, wp_mC, wp_var, wp_if2, wp_and2, wp_or2, wp_not, wp_chain2, isBl_bl, andK_p, orK_p, andV_p, orV_p, iteK_p, andK_t, andK_f, orK_t, orK_f, andV_t, andV_f, orV_t, orV_f, iteK_t, iteK_f, wp_tTru2, dTru_bl, dTru_lst, dTru_int, dTru_non, wp_mt, wp_get, wp_isi, wp_fld, wp_sl, wp_oNone, wp_oSome, wp_tBool, wp_tNot, wp_tAnd2, wp_tOr2, wp_tAll, wp_gSlot, wp_gsNil, wp_gsCons, wp_gTup, wp_gSub, wp_iAny, wp_iSeq, wp_iTup, wp_iStr, wp_iRange1, wp_iRange2, wp_iZip, wS_fld, wp_make, seqQ, rtQ, turnQ, List.getElem?_cons_zero, List.getElem?_cons_succ, List.set_cons_zero, List.set_cons_succ, wipeD, if_true, if_false, Bool.false_eq_true, Bool.true_eq_false, reduceIte, w_add, w_iadd, w_iaddS, w_addS, w_addL, w_addT, w_sub, w_mul, w_mod, w_fdiv, w_pow, w_neg, w_lt, w_le, w_gt, w_ge, w_eqI, w_neI, w_eqT, w_neT, w_isN, w_isnotN, w_isB, w_isNB, w_len, w_lenT, w_int, w_intB, w_abs, w_min, w_max, w_tup, w_lst, w_new, w_list, w_listN, w_ix, w_ixT, w_ixD, w_inT1, w_notinT1, w_inT2, w_notinT2, w_inT3, w_notinT3, w_inT4, w_notinT4, w_inT5, w_notinT5, w_inT6, w_notinT6, w_inT7, w_notinT7, w_inT8, w_notinT8, w_sl1, at_0, at_1, at_2, at_3, at_4, at_5, hasTy_list, hasTy_str, isNonD, flatD, sEq_T, List.all_cons, List.all_nil, List.any_cons, List.any_nil, Bool.and_true, Bool.true_and, Bool.or_false, Bool.or_true, Bool.true_or, Bool.false_or, Bool.not_true, Bool.not_false, List.length_cons, List.length_nil, Nat.zero_add, Nat.reduceAdd, line_eq, true_and, and_true, String.reduceBEq, Int.reduceBEq, decide_true, decide_false, Int.reduceLT, Int.reduceLE, beq_self_eq_true, Nat.reduceLeDiff, wS_raise, wp_xinit, wp_sets0, wp_sets1, wp_fs, wp_xf, wp_xis, hdQ, setO, List.map_cons, List.map_nil, tabF_cons, tabF_nil, lview, w_inU1, w_inU2, w_inU3, w_inU4, w_notinU1, w_notinU2, w_notinU3, w_notinU4, wp_lcN, and_self, or_true, true_or, or_false, false_or, not_true_eq_false, not_false_eq_true, ne_eq, reduceCtorEq, List.cons.injEq, Bool.and_false, Bool.false_and, Bool.and_self, Bool.or_self, List.mem_cons, List.not_mem_nil, isSub, ty_tup, ty_lst, ty_int, ty_bl, ty_str, ty_non, nb, Bool.and_eq_true, Bool.or_eq_true, decide_eq_true_eq, beq_iff_eq, Int.cast_ofNat_Int, List.lookup_cons, List.lookup_nil, str_beq, insOf, not_true_eq_false, gok0]
  refine tk hd (by decide) fun v s1 v0 v1 h1 => ?_
  refine ix_any v0 v1 fun d hdl => ?_
  obtain ⟨l, hl, rfl⟩ : ∃ l ∈ letrs, d = .str (tx l) := by
    simp only [List.mem_cons, List.not_mem_nil, or_false] at hdl
    rcases hdl with rfl | rfl | rfl | rfl | rfl | rfl
    · exact ⟨['a'], by decide, rfl⟩
    · exact ⟨['a', 'b'], by decide, rfl⟩
    · exact ⟨['b', 'a'], by decide, rfl⟩
    · exact ⟨['c', 'a', 'b'], by decide, rfl⟩
    · exact ⟨['d', 'a', 'b', 'c'], by decide, rfl⟩
    · exact ⟨[], by decide, by rw [tx_nil]⟩
  have hl4 : l.length ≤ 100 := by
    have : ∀ l ∈ letrs, l.length ≤ 100 := by decide
    exact this l hl
  try simp only [wp_rep, wp_meth, w_lenSo, w_tupT, w_tupL, List.length_map, wp_ok, wp_bad, wp_bind, wS_ok, wS_bad, wS_cons, wS_nil, wS_pass, wS_break, wS_cont, wS_never, wS_set, wS_expr, wS_ret, wS_retN, wS_if, wS_asg, wS_aug, wS_for, wp_lc, wp_m1, wp_m2, wp_mN, wp_aNil, wp_aCons, wp_mC, wp_var, wp_if2, wp_and2, wp_or2, wp_not, wp_chain2, isBl_bl, andK_p, orK_p, andV_p, orV_p, iteK_p, andK_t, andK_f, orK_t, orK_f, andV_t, andV_f, orV_t, orV_f, iteK_t, iteK_f, wp_tTru2, dTru_bl, dTru_lst, dTru_int, dTru_non, wp_mt, wp_get, wp_isi, wp_fld, wp_sl, wp_oNone, wp_oSome, wp_tBool, wp_tNot, wp_tAnd2, wp_tOr2, wp_tAll, wp_gSlot, wp_gsNil, wp_gsCons, wp_gTup, wp_gSub, wp_iAny, wp_iSeq, wp_iTup, wp_iStr, wp_iRange1, wp_iRange2, wp_iZip, wS_fld, wp_make, seqQ, rtQ, turnQ, List.getElem?_cons_zero, List.getElem?_cons_succ, List.set_cons_zero, List.set_cons_succ, wipeD, if_true, if_false, Bool.false_eq_true, Bool.true_eq_false, reduceIte, w_add, w_iadd, w_iaddS, w_addS, w_addL, w_addT, w_sub, w_mul, w_mod, w_fdiv, w_pow, w_neg, w_lt, w_le, w_gt, w_ge, w_eqI, w_neI, w_eqT, w_neT, w_isN, w_isnotN, w_isB, w_isNB, w_len, w_lenT, w_int, w_intB, w_abs, w_min, w_max, w_tup, w_lst, w_new, w_list, w_listN, w_ix, w_ixT, w_ixD, w_inT1, w_notinT1, w_inT2, w_notinT2, w_inT3, w_notinT3, w_inT4, w_notinT4, w_inT5, w_notinT5, w_inT6, w_notinT6, w_inT7, w_notinT7, w_inT8, w_notinT8, w_sl1, at_0, at_1, at_2, at_3, at_4, at_5, hasTy_list, hasTy_str, isNonD, flatD, sEq_T, List.all_cons, List.all_nil, List.any_cons, List.any_nil, Bool.and_true, Bool.true_and, Bool.or_false, Bool.or_true, Bool.true_or, Bool.false_or, Bool.not_true, Bool.not_false, List.length_cons, List.length_nil, Nat.zero_add, Nat.reduceAdd, line_eq, true_and, and_true, String.reduceBEq, Int.reduceBEq, decide_true, decide_false, Int.reduceLT, Int.reduceLE, beq_self_eq_true, Nat.reduceLeDiff, wS_raise, wp_xinit, wp_sets0, wp_sets1, wp_fs, wp_xf, wp_xis, hdQ, setO, List.map_cons, List.map_nil, tabF_cons, tabF_nil, lview, w_inU1, w_inU2, w_inU3, w_inU4, w_notinU1, w_notinU2, w_notinU3, w_notinU4, wp_lcN, and_self, or_true, true_or, or_false, false_or, not_true_eq_false, not_false_eq_true, ne_eq, reduceCtorEq, List.cons.injEq, Bool.and_false, Bool.false_and, Bool.and_self, Bool.or_self, List.mem_cons, List.not_mem_nil, isSub, ty_tup, ty_lst, ty_int, ty_bl, ty_str, ty_non, nb, Bool.and_eq_true, Bool.or_eq_true, decide_eq_true_eq, beq_iff_eq, Int.cast_ofNat_Int, List.lookup_cons, List.lookup_nil, str_beq, insOf, not_true_eq_false, gok0]
  refine tk h1 (by decide) fun a s2 a0 a1 h2 => ?_
  try simp only [wp_rep, wp_meth, w_lenSo, w_tupT, w_tupL, List.length_map, wp_ok, wp_bad, wp_bind, wS_ok, wS_bad, wS_cons, wS_nil, wS_pass, wS_break, wS_cont, wS_never, wS_set, wS_expr, wS_ret, wS_retN, wS_if, wS_asg, wS_aug, wS_for, wp_lc, wp_m1, wp_m2, wp_mN, wp_aNil, wp_aCons, wp_mC, wp_var, wp_if2, wp_and2, wp_or2, wp_not, wp_chain2, isBl_bl, andK_p, orK_p, andV_p, orV_p, iteK_p, andK_t, andK_f, orK_t, orK_f, andV_t, andV_f, orV_t, orV_f, iteK_t, iteK_f, wp_tTru2, dTru_bl, dTru_lst, dTru_int, dTru_non, wp_mt, wp_get, wp_isi, wp_fld, wp_sl, wp_oNone, wp_oSome, wp_tBool, wp_tNot, wp_tAnd2, wp_tOr2, wp_tAll, wp_gSlot, wp_gsNil, wp_gsCons, wp_gTup, wp_gSub, wp_iAny, wp_iSeq, wp_iTup, wp_iStr, wp_iRange1, wp_iRange2, wp_iZip, wS_fld, wp_make, seqQ, rtQ, turnQ, List.getElem?_cons_zero, List.getElem?_cons_succ, List.set_cons_zero, List.set_cons_succ, wipeD, if_true, if_false, Bool.false_eq_true, Bool.true_eq_false, reduceIte, w_add, w_iadd, w_iaddS, w_addS, w_addL, w_addT, w_sub, w_mul, w_mod, w_fdiv, w_pow, w_neg, w_lt, w_le, w_gt, w_ge, w_eqI, w_neI, w_eqT, w_neT, w_isN, w_isnotN, w_isB, w_isNB, w_len, w_lenT, w_int, w_intB, w_abs, w_min, w_max, w_tup, w_lst, w_new, w_list, w_listN, w_ix, w_ixT, w_ixD, w_inT1, w_notinT1, w_inT2, w_notinT2, w_inT3, w_notinT3, w_inT4, w_notinT4, w_inT5, w_notinT5, w_inT6, w_notinT6, w_inT7, w_notinT7, w_inT8, w_notinT8, w_sl1, at_0, at_1, at_2, at_3, at_4, at_5, hasTy_list, hasTy_str, isNonD, flatD, sEq_T, List.all_cons, List.all_nil, List.any_cons, List.any_nil, Bool.and_true, Bool.true_and, Bool.or_false, Bool.or_true, Bool.true_or, Bool.false_or, Bool.not_true, Bool.not_false, List.length_cons, List.length_nil, Nat.zero_add, Nat.reduceAdd, line_eq, true_and, and_true, String.reduceBEq, Int.reduceBEq, decide_true, decide_false, Int.reduceLT, Int.reduceLE, beq_self_eq_true, Nat.reduceLeDiff, wS_raise, wp_xinit, wp_sets0, wp_sets1, wp_fs, wp_xf, wp_xis, hdQ, setO, List.map_cons, List.map_nil, tabF_cons, tabF_nil, lview, w_inU1, w_inU2, w_inU3, w_inU4, w_notinU1, w_notinU2, w_notinU3, w_notinU4, wp_lcN, and_self, or_true, true_or, or_false, false_or, not_true_eq_false, not_false_eq_true, ne_eq, reduceCtorEq, List.cons.injEq, Bool.and_false, Bool.false_and, Bool.and_self, Bool.or_self, List.mem_cons, List.not_mem_nil, isSub, ty_tup, ty_lst, ty_int, ty_bl, ty_str, ty_non, nb, Bool.and_eq_true, Bool.or_eq_true, decide_eq_true_eq, beq_iff_eq, Int.cast_ofNat_Int, List.lookup_cons, List.lookup_nil, str_beq, insOf, not_true_eq_false, gok0]
  refine tk h2 (by decide) fun b s3 b0 b1 h3 => ?_
  try simp only [wp_rep, wp_meth, w_lenSo, w_tupT, w_tupL, List.length_map, wp_ok, wp_bad, wp_bind, wS_ok, wS_bad, wS_cons, wS_nil, wS_pass, wS_break, wS_cont, wS_never, wS_set, wS_expr, wS_ret, wS_retN, wS_if, wS_asg, wS_aug, wS_for, wp_lc, wp_m1, wp_m2, wp_mN, wp_aNil, wp_aCons, wp_mC, wp_var, wp_if2, wp_and2, wp_or2, wp_not, wp_chain2, isBl_bl, andK_p, orK_p, andV_p, orV_p, iteK_p, andK_t, andK_f, orK_t, orK_f, andV_t, andV_f, orV_t, orV_f, iteK_t, iteK_f, wp_tTru2, dTru_bl, dTru_lst, dTru_int, dTru_non, wp_mt, wp_get, wp_isi, wp_fld, wp_sl, wp_oNone, wp_oSome, wp_tBool, wp_tNot, wp_tAnd2, wp_tOr2, wp_tAll, wp_gSlot, wp_gsNil, wp_gsCons, wp_gTup, wp_gSub, wp_iAny, wp_iSeq, wp_iTup, wp_iStr, wp_iRange1, wp_iRange2, wp_iZip, wS_fld, wp_make, seqQ, rtQ, turnQ, List.getElem?_cons_zero, List.getElem?_cons_succ, List.set_cons_zero, List.set_cons_succ, wipeD, if_true, if_false, Bool.false_eq_true, Bool.true_eq_false, reduceIte, w_add, w_iadd, w_iaddS, w_addS, w_addL, w_addT, w_sub, w_mul, w_mod, w_fdiv, w_pow, w_neg, w_lt, w_le, w_gt, w_ge, w_eqI, w_neI, w_eqT, w_neT, w_isN, w_isnotN, w_isB, w_isNB, w_len, w_lenT, w_int, w_intB, w_abs, w_min, w_max, w_tup, w_lst, w_new, w_list, w_listN, w_ix, w_ixT, w_ixD, w_inT1, w_notinT1, w_inT2, w_notinT2, w_inT3, w_notinT3, w_inT4, w_notinT4, w_inT5, w_notinT5, w_inT6, w_notinT6, w_inT7, w_notinT7, w_inT8, w_notinT8, w_sl1, at_0, at_1, at_2, at_3, at_4, at_5, hasTy_list, hasTy_str, isNonD, flatD, sEq_T, List.all_cons, List.all_nil, List.any_cons, List.any_nil, Bool.and_true, Bool.true_and, Bool.or_false, Bool.or_true, Bool.true_or, Bool.false_or, Bool.not_true, Bool.not_false, List.length_cons, List.length_nil, Nat.zero_add, Nat.reduceAdd, line_eq, true_and, and_true, String.reduceBEq, Int.reduceBEq, decide_true, decide_false, Int.reduceLT, Int.reduceLE, beq_self_eq_true, Nat.reduceLeDiff, wS_raise, wp_xinit, wp_sets0, wp_sets1, wp_fs, wp_xf, wp_xis, hdQ, setO, List.map_cons, List.map_nil, tabF_cons, tabF_nil, lview, w_inU1, w_inU2, w_inU3, w_inU4, w_notinU1, w_notinU2, w_notinU3, w_notinU4, wp_lcN, and_self, or_true, true_or, or_false, false_or, not_true_eq_false, not_false_eq_true, ne_eq, reduceCtorEq, List.cons.injEq, Bool.and_false, Bool.false_and, Bool.and_self, Bool.or_self, List.mem_cons, List.not_mem_nil, isSub, ty_tup, ty_lst, ty_int, ty_bl, ty_str, ty_non, nb, Bool.and_eq_true, Bool.or_eq_true, decide_eq_true_eq, beq_iff_eq, Int.cast_ofNat_Int, List.lookup_cons, List.lookup_nil, str_beq, insOf, not_true_eq_false, gok0]
  refine tk h3 (by decide) fun c s4 c0 c1 h4 => ?_
  try simp only [wp_rep, wp_meth, w_lenSo, w_tupT, w_tupL, List.length_map, wp_ok, wp_bad, wp_bind, wS_ok, wS_bad, wS_cons, wS_nil, wS_pass, wS_break, wS_cont, wS_never, wS_set, wS_expr, wS_ret, wS_retN, wS_if, wS_asg, wS_aug, wS_for, wp_lc, wp_m1, wp_m2, wp_mN, wp_aNil, wp_aCons, wp_mC, wp_var, wp_if2, wp_and2, wp_or2, wp_not, wp_chain2, isBl_bl, andK_p, orK_p, andV_p, orV_p, iteK_p, andK_t, andK_f, orK_t, orK_f, andV_t, andV_f, orV_t, orV_f, iteK_t, iteK_f, wp_tTru2, dTru_bl, dTru_lst, dTru_int, dTru_non, wp_mt, wp_get, wp_isi, wp_fld, wp_sl, wp_oNone, wp_oSome, wp_tBool, wp_tNot, wp_tAnd2, wp_tOr2, wp_tAll, wp_gSlot, wp_gsNil, wp_gsCons, wp_gTup, wp_gSub, wp_iAny, wp_iSeq, wp_iTup, wp_iStr, wp_iRange1, wp_iRange2, wp_iZip, wS_fld, wp_make, seqQ, rtQ, turnQ, List.getElem?_cons_zero, List.getElem?_cons_succ, List.set_cons_zero, List.set_cons_succ, wipeD, if_true, if_false, Bool.false_eq_true, Bool.true_eq_false, reduceIte, w_add, w_iadd, w_iaddS, w_addS, w_addL, w_addT, w_sub, w_mul, w_mod, w_fdiv, w_pow, w_neg, w_lt, w_le, w_gt, w_ge, w_eqI, w_neI, w_eqT, w_neT, w_isN, w_isnotN, w_isB, w_isNB, w_len, w_lenT, w_int, w_intB, w_abs, w_min, w_max, w_tup, w_lst, w_new, w_list, w_listN, w_ix, w_ixT, w_ixD, w_inT1, w_notinT1, w_inT2, w_notinT2, w_inT3, w_notinT3, w_inT4, w_notinT4, w_inT5, w_notinT5, w_inT6, w_notinT6, w_inT7, w_notinT7, w_inT8, w_notinT8, w_sl1, at_0, at_1, at_2, at_3, at_4, at_5, hasTy_list, hasTy_str, isNonD, flatD, sEq_T, List.all_cons, List.all_nil, List.any_cons, List.any_nil, Bool.and_true, Bool.true_and, Bool.or_false, Bool.or_true, Bool.true_or, Bool.false_or, Bool.not_true, Bool.not_false, List.length_cons, List.length_nil, Nat.zero_add, Nat.reduceAdd, line_eq, true_and, and_true, String.reduceBEq, Int.reduceBEq, decide_true, decide_false, Int.reduceLT, Int.reduceLE, beq_self_eq_true, Nat.reduceLeDiff, wS_raise, wp_xinit, wp_sets0, wp_sets1, wp_fs, wp_xf, wp_xis, hdQ, setO, List.map_cons, List.map_nil, tabF_cons, tabF_nil, lview, w_inU1, w_inU2, w_inU3, w_inU4, w_notinU1, w_notinU2, w_notinU3, w_notinU4, wp_lcN, and_self, or_true, true_or, or_false, false_or, not_true_eq_false, not_false_eq_true, ne_eq, reduceCtorEq, List.cons.injEq, Bool.and_false, Bool.false_and, Bool.and_self, Bool.or_self, List.mem_cons, List.not_mem_nil, isSub, ty_tup, ty_lst, ty_int, ty_bl, ty_str, ty_non, nb, Bool.and_eq_true, Bool.or_eq_true, decide_eq_true_eq, beq_iff_eq, Int.cast_ofNat_Int, List.lookup_cons, List.lookup_nil, str_beq, insOf, not_true_eq_false, gok0]
  refine tk h4 (by decide) fun w s5 w0 w1 h5 => ?_
  refine ix_any w0 w1 fun d2 hd2 => ?_
  obtain ⟨n, rfl, hn⟩ : ∃ n : Nat, d2 = .int n ∧ n ≤ 30 := by
    simp only [List.mem_cons, List.not_mem_nil, or_false] at hd2
    rcases hd2 with rfl | rfl | rfl
    · exact ⟨a.toNat, by congr 1; omega, by omega⟩
    · exact ⟨(4 + b).toNat, by congr 1; omega, by omega⟩
    · exact ⟨c.toNat, by congr 1; omega, by omega⟩
  try simp only [wp_rep, wp_meth, w_lenSo, w_tupT, w_tupL, List.length_map, wp_ok, wp_bad, wp_bind, wS_ok, wS_bad, wS_cons, wS_nil, wS_pass, wS_break, wS_cont, wS_never, wS_set, wS_expr, wS_ret, wS_retN, wS_if, wS_asg, wS_aug, wS_for, wp_lc, wp_m1, wp_m2, wp_mN, wp_aNil, wp_aCons, wp_mC, wp_var, wp_if2, wp_and2, wp_or2, wp_not, wp_chain2, isBl_bl, andK_p, orK_p, andV_p, orV_p, iteK_p, andK_t, andK_f, orK_t, orK_f, andV_t, andV_f, orV_t, orV_f, iteK_t, iteK_f, wp_tTru2, dTru_bl, dTru_lst, dTru_int, dTru_non, wp_mt, wp_get, wp_isi, wp_fld, wp_sl, wp_oNone, wp_oSome, wp_tBool, wp_tNot, wp_tAnd2, wp_tOr2, wp_tAll, wp_gSlot, wp_gsNil, wp_gsCons, wp_gTup, wp_gSub, wp_iAny, wp_iSeq, wp_iTup, wp_iStr, wp_iRange1, wp_iRange2, wp_iZip, wS_fld, wp_make, seqQ, rtQ, turnQ, List.getElem?_cons_zero, List.getElem?_cons_succ, List.set_cons_zero, List.set_cons_succ, wipeD, if_true, if_false, Bool.false_eq_true, Bool.true_eq_false, reduceIte, w_add, w_iadd, w_iaddS, w_addS, w_addL, w_addT, w_sub, w_mul, w_mod, w_fdiv, w_pow, w_neg, w_lt, w_le, w_gt, w_ge, w_eqI, w_neI, w_eqT, w_neT, w_isN, w_isnotN, w_isB, w_isNB, w_len, w_lenT, w_int, w_intB, w_abs, w_min, w_max, w_tup, w_lst, w_new, w_list, w_listN, w_ix, w_ixT, w_ixD, w_inT1, w_notinT1, w_inT2, w_notinT2, w_inT3, w_notinT3, w_inT4, w_notinT4, w_inT5, w_notinT5, w_inT6, w_notinT6, w_inT7, w_notinT7, w_inT8, w_notinT8, w_sl1, at_0, at_1, at_2, at_3, at_4, at_5, hasTy_list, hasTy_str, isNonD, flatD, sEq_T, List.all_cons, List.all_nil, List.any_cons, List.any_nil, Bool.and_true, Bool.true_and, Bool.or_false, Bool.or_true, Bool.true_or, Bool.false_or, Bool.not_true, Bool.not_false, List.length_cons, List.length_nil, Nat.zero_add, Nat.reduceAdd, line_eq, true_and, and_true, String.reduceBEq, Int.reduceBEq, decide_true, decide_false, Int.reduceLT, Int.reduceLE, beq_self_eq_true, Nat.reduceLeDiff, wS_raise, wp_xinit, wp_sets0, wp_sets1, wp_fs, wp_xf, wp_xis, hdQ, setO, List.map_cons, List.map_nil, tabF_cons, tabF_nil, lview, w_inU1, w_inU2, w_inU3, w_inU4, w_notinU1, w_notinU2, w_notinU3, w_notinU4, wp_lcN, and_self, or_true, true_or, or_false, false_or, not_true_eq_false, not_false_eq_true, ne_eq, reduceCtorEq, List.cons.injEq, Bool.and_false, Bool.false_and, Bool.and_self, Bool.or_self, List.mem_cons, List.not_mem_nil, isSub, ty_tup, ty_lst, ty_int, ty_bl, ty_str, ty_non, nb, Bool.and_eq_true, Bool.or_eq_true, decide_eq_true_eq, beq_iff_eq, Int.cast_ofNat_Int, List.lookup_cons, List.lookup_nil, str_beq, insOf, not_true_eq_false, gok0]
  rw [show ((n : Nat) : Int).toNat = n from rfl]
  refine ⟨by omega, ?_⟩
  refine orders_wp h5 (by omega) hl4 fun body s6 hbody h6 => ?_
  refine ⟨by unfold rng; simp; omega, ?_⟩
  refine tk h6 (by decide) fun m s7 m0 m1 h7 => ?_
  obtain ⟨q, rfl⟩ : ∃ q : Nat, m = q := ⟨m.toNat, by omega⟩
  try simp only [wp_rep, wp_meth, w_lenSo, w_tupT, w_tupL, List.length_map, wp_ok, wp_bad, wp_bind, wS_ok, wS_bad, wS_cons, wS_nil, wS_pass, wS_break, wS_cont, wS_never, wS_set, wS_expr, wS_ret, wS_retN, wS_if, wS_asg, wS_aug, wS_for, wp_lc, wp_m1, wp_m2, wp_mN, wp_aNil, wp_aCons, wp_mC, wp_var, wp_if2, wp_and2, wp_or2, wp_not, wp_chain2, isBl_bl, andK_p, orK_p, andV_p, orV_p, iteK_p, andK_t, andK_f, orK_t, orK_f, andV_t, andV_f, orV_t, orV_f, iteK_t, iteK_f, wp_tTru2, dTru_bl, dTru_lst, dTru_int, dTru_non, wp_mt, wp_get, wp_isi, wp_fld, wp_sl, wp_oNone, wp_oSome, wp_tBool, wp_tNot, wp_tAnd2, wp_tOr2, wp_tAll, wp_gSlot, wp_gsNil, wp_gsCons, wp_gTup, wp_gSub, wp_iAny, wp_iSeq, wp_iTup, wp_iStr, wp_iRange1, wp_iRange2, wp_iZip, wS_fld, wp_make, seqQ, rtQ, turnQ, List.getElem?_cons_zero, List.getElem?_cons_succ, List.set_cons_zero, List.set_cons_succ, wipeD, if_true, if_false, Bool.false_eq_true, Bool.true_eq_false, reduceIte, w_add, w_iadd, w_iaddS, w_addS, w_addL, w_addT, w_sub, w_mul, w_mod, w_fdiv, w_pow, w_neg, w_lt, w_le, w_gt, w_ge, w_eqI, w_neI, w_eqT, w_neT, w_isN, w_isnotN, w_isB, w_isNB, w_len, w_lenT, w_int, w_intB, w_abs, w_min, w_max, w_tup, w_lst, w_new, w_list, w_listN, w_ix, w_ixT, w_ixD, w_inT1, w_notinT1, w_inT2, w_notinT2, w_inT3, w_notinT3, w_inT4, w_notinT4, w_inT5, w_notinT5, w_inT6, w_notinT6, w_inT7, w_notinT7, w_inT8, w_notinT8, w_sl1, at_0, at_1, at_2, at_3, at_4, at_5, hasTy_list, hasTy_str, isNonD, flatD, sEq_T, List.all_cons, List.all_nil, List.any_cons, List.any_nil, Bool.and_true, Bool.true_and, Bool.or_false, Bool.or_true, Bool.true_or, Bool.false_or, Bool.not_true, Bool.not_false, List.length_cons, List.length_nil, Nat.zero_add, Nat.reduceAdd, line_eq, true_and, and_true, String.reduceBEq, Int.reduceBEq, decide_true, decide_false, Int.reduceLT, Int.reduceLE, beq_self_eq_true, Nat.reduceLeDiff, wS_raise, wp_xinit, wp_sets0, wp_sets1, wp_fs, wp_xf, wp_xis, hdQ, setO, List.map_cons, List.map_nil, tabF_cons, tabF_nil, lview, w_inU1, w_inU2, w_inU3, w_inU4, w_notinU1, w_notinU2, w_notinU3, w_notinU4, wp_lcN, and_self, or_true, true_or, or_false, false_or, not_true_eq_false, not_false_eq_true, ne_eq, reduceCtorEq, List.cons.injEq, Bool.and_false, Bool.false_and, Bool.and_self, Bool.or_self, List.mem_cons, List.not_mem_nil, isSub, ty_tup, ty_lst, ty_int, ty_bl, ty_str, ty_non, nb, Bool.and_eq_true, Bool.or_eq_true, decide_eq_true_eq, beq_iff_eq, Int.cast_ofNat_Int, List.lookup_cons, List.lookup_nil, str_beq, insOf, not_true_eq_false, gok0]
  rw [show ((q : Nat) : Int).toNat = q from rfl]
  refine ⟨by omega, ?_⟩
  refine orders_wp h7 (by omega) hl4 fun fin s8 hfin h8 => ?_
  refine ⟨by unfold rng; simp; omega, ?_⟩
  try simp only [wp_rep, wp_meth, w_lenSo, w_tupT, w_tupL, List.length_map, wp_ok, wp_bad, wp_bind, wS_ok, wS_bad, wS_cons, wS_nil, wS_pass, wS_break, wS_cont, wS_never, wS_set, wS_expr, wS_ret, wS_retN, wS_if, wS_asg, wS_aug, wS_for, wp_lc, wp_m1, wp_m2, wp_mN, wp_aNil, wp_aCons, wp_mC, wp_var, wp_if2, wp_and2, wp_or2, wp_not, wp_chain2, isBl_bl, andK_p, orK_p, andV_p, orV_p, iteK_p, andK_t, andK_f, orK_t, orK_f, andV_t, andV_f, orV_t, orV_f, iteK_t, iteK_f, wp_tTru2, dTru_bl, dTru_lst, dTru_int, dTru_non, wp_mt, wp_get, wp_isi, wp_fld, wp_sl, wp_oNone, wp_oSome, wp_tBool, wp_tNot, wp_tAnd2, wp_tOr2, wp_tAll, wp_gSlot, wp_gsNil, wp_gsCons, wp_gTup, wp_gSub, wp_iAny, wp_iSeq, wp_iTup, wp_iStr, wp_iRange1, wp_iRange2, wp_iZip, wS_fld, wp_make, seqQ, rtQ, turnQ, List.getElem?_cons_zero, List.getElem?_cons_succ, List.set_cons_zero, List.set_cons_succ, wipeD, if_true, if_false, Bool.false_eq_true, Bool.true_eq_false, reduceIte, w_add, w_iadd, w_iaddS, w_addS, w_addL, w_addT, w_sub, w_mul, w_mod, w_fdiv, w_pow, w_neg, w_lt, w_le, w_gt, w_ge, w_eqI, w_neI, w_eqT, w_neT, w_isN, w_isnotN, w_isB, w_isNB, w_len, w_lenT, w_int, w_intB, w_abs, w_min, w_max, w_tup, w_lst, w_new, w_list, w_listN, w_ix, w_ixT, w_ixD, w_inT1, w_notinT1, w_inT2, w_notinT2, w_inT3, w_notinT3, w_inT4, w_notinT4, w_inT5, w_notinT5, w_inT6, w_notinT6, w_inT7, w_notinT7, w_inT8, w_notinT8, w_sl1, at_0, at_1, at_2, at_3, at_4, at_5, hasTy_list, hasTy_str, isNonD, flatD, sEq_T, List.all_cons, List.all_nil, List.any_cons, List.any_nil, Bool.and_true, Bool.true_and, Bool.or_false, Bool.or_true, Bool.true_or, Bool.false_or, Bool.not_true, Bool.not_false, List.length_cons, List.length_nil, Nat.zero_add, Nat.reduceAdd, line_eq, true_and, and_true, String.reduceBEq, Int.reduceBEq, decide_true, decide_false, Int.reduceLT, Int.reduceLE, beq_self_eq_true, Nat.reduceLeDiff, wS_raise, wp_xinit, wp_sets0, wp_sets1, wp_fs, wp_xf, wp_xis, hdQ, setO, List.map_cons, List.map_nil, tabF_cons, tabF_nil, lview, w_inU1, w_inU2, w_inU3, w_inU4, w_notinU1, w_notinU2, w_notinU3, w_notinU4, wp_lcN, and_self, or_true, true_or, or_false, false_or, not_true_eq_false, not_false_eq_true, ne_eq, reduceCtorEq, List.cons.injEq, Bool.and_false, Bool.false_and, Bool.and_self, Bool.or_self, List.mem_cons, List.not_mem_nil, isSub, ty_tup, ty_lst, ty_int, ty_bl, ty_str, ty_non, nb, Bool.and_eq_true, Bool.or_eq_true, decide_eq_true_eq, beq_iff_eq, Int.cast_ofNat_Int, List.lookup_cons, List.lookup_nil, str_beq, insOf, not_true_eq_false, gok0]
  exact k l body fin s8 hl hbody hfin h8
end
end
end K11
namespace K11
open PySem PySem.Spec PyProof.Rows L2 Pm
noncomputable section
/-! ### a recipe is accepted -/
section
variable {s t : S} {Q : D → S → Prop} {E : D → S → Prop} {ρ : Rho} {l : List Char} {A : O}
theorem letr_ok : ∀ l ∈ letrs, l.length ≤ 4 ∧ ∀ i, (h : i < l.length) → Txt.slice (tx l) none (some (i : Int)) = tx (l.take i) ∧ (l[i] ∈ "abcdefghijklmnopqrstuvwxyz".toList) ∧ ¬ (l[i] ∈ l.take i) := by decide +kernel
theorem letters_wp (hl : l ∈ letrs) (k : Q .non s) : wp (f_check_letters [.str (tx l)] s) Q E := by
  refine (wp_fn (n := 1) (tot := 2) (m := m_check_letters) rfl).mpr ?_
  show wS (m_check_letters [some (.str (tx l)), none] _) _ _
  obtain ⟨h4, hi⟩ := letr_ok l hl
  unfold m_check_letters c_LETTERS d_LETTERS
  try simp only [wp_rep, wp_meth, w_lenSo, w_tupT, w_tupL, List.length_map, wp_ok, wp_bad, wp_bind, wS_ok, wS_bad, wS_cons, wS_nil, wS_pass, wS_break, wS_cont, wS_never, wS_set, wS_expr, wS_ret, wS_retN, wS_if, wS_asg, wS_aug, wS_for, wp_lc, wp_m1, wp_m2, wp_mN, wp_aNil, wp_aCons, wp_mC, wp_var, wp_if2, wp_and2, wp_or2, wp_not, wp_chain2, isBl_bl, andK_p, orK_p, andV_p, orV_p, iteK_p, andK_t, andK_f, orK_t, orK_f, andV_t, andV_f, orV_t, orV_f, iteK_t, iteK_f, wp_tTru2, dTru_bl, dTru_lst, dTru_int, dTru_non, wp_mt, wp_get, wp_isi, wp_fld, wp_sl, wp_oNone, wp_oSome, wp_tBool, wp_tNot, wp_tAnd2, wp_tOr2, wp_tAll, wp_gSlot, wp_gsNil, wp_gsCons, wp_gTup, wp_gSub, wp_iAny, wp_iSeq, wp_iTup, wp_iStr, wp_iRange1, wp_iRange2, wp_iZip, wS_fld, wp_make, seqQ, rtQ, turnQ, List.getElem?_cons_zero, List.getElem?_cons_succ, List.set_cons_zero, List.set_cons_succ, wipeD, if_true, if_false, Bool.false_eq_true, Bool.true_eq_false, reduceIte, w_add, w_iadd, w_iaddS, w_addS, w_addL, w_addT, w_sub, w_mul, w_mod, w_fdiv, w_pow, w_neg, w_lt, w_le, w_gt, w_ge, w_eqI, w_neI, w_eqT, w_neT, w_isN, w_isnotN, w_isB, w_isNB, w_len, w_lenT, w_int, w_intB, w_abs, w_min, w_max, w_tup, w_lst, w_new, w_list, w_listN, w_ix, w_ixT, w_ixD, w_inT1, w_notinT1, w_inT2, w_notinT2, w_inT3, w_notinT3, w_inT4, w_notinT4, w_inT5, w_notinT5, w_inT6, w_notinT6, w_inT7, w_notinT7, w_inT8, w_notinT8, w_sl1, at_0, at_1, at_2, at_3, at_4, at_5, hasTy_list, hasTy_str, isNonD, flatD, sEq_T, List.all_cons, List.all_nil, List.any_cons, List.any_nil, Bool.and_true, Bool.true_and, Bool.or_false, Bool.or_true, Bool.true_or, Bool.false_or, Bool.not_true, Bool.not_false, List.length_cons, List.length_nil, Nat.zero_add, Nat.reduceAdd, line_eq, true_and, and_true, String.reduceBEq, Int.reduceBEq, decide_true, decide_false, Int.reduceLT, Int.reduceLE, beq_self_eq_true, Nat.reduceLeDiff, wS_raise, wp_xinit, wp_sets0, wp_sets1, wp_fs, wp_xf, wp_xis, hdQ, setO, List.map_cons, List.map_nil, tabF_cons, tabF_nil, lview, w_inU1, w_inU2, w_inU3, w_inU4, w_notinU1, w_notinU2, w_notinU3, w_notinU4, wp_lcN, and_self, or_true, true_or, or_false, false_or, not_true_eq_false, not_false_eq_true, ne_eq, reduceCtorEq, List.cons.injEq, Bool.and_false, Bool.false_and, Bool.and_self, Bool.or_self, List.mem_cons, List.not_mem_nil, isSub, ty_tup, ty_lst, ty_int, ty_bl, ty_str, ty_non, nb, Bool.and_eq_true, Bool.or_eq_true, decide_eq_true_eq, beq_iff_eq, Int.cast_ofNat_Int, List.lookup_cons, List.lookup_nil, str_beq, insOf, not_true_eq_false, gok0]
  rw [x_len, line_eq]
  refine ⟨by omega, by omega, ?_⟩
  refine wS_forN (I := fun rest ρ s' => s' = s ∧ (∃ v1, ρ = [some (.str (tx l)), v1]) ∧ ∀ x ∈ rest, ∃ i : Nat, x = .int i ∧ i < l.length) ?_ ?_ _ _ _ ⟨rfl, ⟨_, rfl⟩, fun x hx => ?_⟩
  · rintro ρ s' ⟨rfl, ⟨v1, rfl⟩, _⟩
    exact k
  · rintro x rest ρ s' ⟨rfl, ⟨v1, rfl⟩, hx⟩
    obtain ⟨i, rfl, hlt⟩ := hx x List.mem_cons_self
    obtain ⟨e1, e2, e3⟩ := hi i hlt
    obtain ⟨c, hc, e4, e5⟩ := tx_at l (i := (i : Nat)) (by omega) (by omega)
    have ec : l[i] = c := by
      rw [show ((i : Nat) : Int).toNat = i from rfl, List.getElem?_eq_getElem hlt] at e4
      exact Option.some.inj e4
    rw [ec] at e2 e3
    try simp only [wp_rep, wp_meth, w_lenSo, w_tupT, w_tupL, List.length_map, wp_ok, wp_bad, wp_bind, wS_ok, wS_bad, wS_cons, wS_nil, wS_pass, wS_break, wS_cont, wS_never, wS_set, wS_expr, wS_ret, wS_retN, wS_if, wS_asg, wS_aug, wS_for, wp_lc, wp_m1, wp_m2, wp_mN, wp_aNil, wp_aCons, wp_mC, wp_var, wp_if2, wp_and2, wp_or2, wp_not, wp_chain2, isBl_bl, andK_p, orK_p, andV_p, orV_p, iteK_p, andK_t, andK_f, orK_t, orK_f, andV_t, andV_f, orV_t, orV_f, iteK_t, iteK_f, wp_tTru2, dTru_bl, dTru_lst, dTru_int, dTru_non, wp_mt, wp_get, wp_isi, wp_fld, wp_sl, wp_oNone, wp_oSome, wp_tBool, wp_tNot, wp_tAnd2, wp_tOr2, wp_tAll, wp_gSlot, wp_gsNil, wp_gsCons, wp_gTup, wp_gSub, wp_iAny, wp_iSeq, wp_iTup, wp_iStr, wp_iRange1, wp_iRange2, wp_iZip, wS_fld, wp_make, seqQ, rtQ, turnQ, List.getElem?_cons_zero, List.getElem?_cons_succ, List.set_cons_zero, List.set_cons_succ, wipeD, if_true, if_false, Bool.false_eq_true, Bool.true_eq_false, reduceIte, w_add, w_iadd, w_iaddS, w_addS, w_addL, w_addT, w_sub, w_mul, w_mod, w_fdiv, w_pow, w_neg, w_lt, w_le, w_gt, w_ge, w_eqI, w_neI, w_eqT, w_neT, w_isN, w_isnotN, w_isB, w_isNB, w_len, w_lenT, w_int, w_intB, w_abs, w_min, w_max, w_tup, w_lst, w_new, w_list, w_listN, w_ix, w_ixT, w_ixD, w_inT1, w_notinT1, w_inT2, w_notinT2, w_inT3, w_notinT3, w_inT4, w_notinT4, w_inT5, w_notinT5, w_inT6, w_notinT6, w_inT7, w_notinT7, w_inT8, w_notinT8, w_sl1, at_0, at_1, at_2, at_3, at_4, at_5, hasTy_list, hasTy_str, isNonD, flatD, sEq_T, List.all_cons, List.all_nil, List.any_cons, List.any_nil, Bool.and_true, Bool.true_and, Bool.or_false, Bool.or_true, Bool.true_or, Bool.false_or, Bool.not_true, Bool.not_false, List.length_cons, List.length_nil, Nat.zero_add, Nat.reduceAdd, line_eq, true_and, and_true, String.reduceBEq, Int.reduceBEq, decide_true, decide_false, Int.reduceLT, Int.reduceLE, beq_self_eq_true, Nat.reduceLeDiff, wS_raise, wp_xinit, wp_sets0, wp_sets1, wp_fs, wp_xf, wp_xis, hdQ, setO, List.map_cons, List.map_nil, tabF_cons, tabF_nil, lview, w_inU1, w_inU2, w_inU3, w_inU4, w_notinU1, w_notinU2, w_notinU3, w_notinU4, wp_lcN, and_self, or_true, true_or, or_false, false_or, not_true_eq_false, not_false_eq_true, ne_eq, reduceCtorEq, List.cons.injEq, Bool.and_false, Bool.false_and, Bool.and_self, Bool.or_self, List.mem_cons, List.not_mem_nil, isSub, ty_tup, ty_lst, ty_int, ty_bl, ty_str, ty_non, nb, Bool.and_eq_true, Bool.or_eq_true, decide_eq_true_eq, beq_iff_eq, Int.cast_ofNat_Int, List.lookup_cons, List.lookup_nil, str_beq, insOf, not_true_eq_false, gok0]
    rw [e5 (by rw [line_eq]; omega), ofS, x_notin, decide_eq_true e2, Bool.not_true]
    simp only [orK_f]
    rw [e5 (by rw [line_eq]; omega)]
    have e6 : ∀ (Q1 : D → S → Prop), Q1 (.str (tx (l.take i))) s' → wp (dSl none (some (i : Int)) (D.str (tx l)) s') Q1 (fun x s => E x s) := fun Q1 h1 => by
      show wp (if (tx l).length ≤ sizeLine then R.ok (D.str (Txt.slice (tx l) none (some (i : Int)))) s' else .bad) _ _
      rw [if_pos (by rw [tx_len, line_eq]; omega), e1]
      exact by rw [wp_ok]; exact h1
    refine e6 _ ?_
    rw [x_in, decide_eq_false e3]
    try simp only [wp_rep, wp_meth, w_lenSo, w_tupT, w_tupL, List.length_map, wp_ok, wp_bad, wp_bind, wS_ok, wS_bad, wS_cons, wS_nil, wS_pass, wS_break, wS_cont, wS_never, wS_set, wS_expr, wS_ret, wS_retN, wS_if, wS_asg, wS_aug, wS_for, wp_lc, wp_m1, wp_m2, wp_mN, wp_aNil, wp_aCons, wp_mC, wp_var, wp_if2, wp_and2, wp_or2, wp_not, wp_chain2, isBl_bl, andK_p, orK_p, andV_p, orV_p, iteK_p, andK_t, andK_f, orK_t, orK_f, andV_t, andV_f, orV_t, orV_f, iteK_t, iteK_f, wp_tTru2, dTru_bl, dTru_lst, dTru_int, dTru_non, wp_mt, wp_get, wp_isi, wp_fld, wp_sl, wp_oNone, wp_oSome, wp_tBool, wp_tNot, wp_tAnd2, wp_tOr2, wp_tAll, wp_gSlot, wp_gsNil, wp_gsCons, wp_gTup, wp_gSub, wp_iAny, wp_iSeq, wp_iTup, wp_iStr, wp_iRange1, wp_iRange2, wp_iZip, wS_fld, wp_make, seqQ, rtQ, turnQ, List.getElem?_cons_zero, List.getElem?_cons_succ, List.set_cons_zero, List.set_cons_succ, wipeD, if_true, if_false, Bool.false_eq_true, Bool.true_eq_false, reduceIte, w_add, w_iadd, w_iaddS, w_addS, w_addL, w_addT, w_sub, w_mul, w_mod, w_fdiv, w_pow, w_neg, w_lt, w_le, w_gt, w_ge, w_eqI, w_neI, w_eqT, w_neT, w_isN, w_isnotN, w_isB, w_isNB, w_len, w_lenT, w_int, w_intB, w_abs, w_min, w_max, w_tup, w_lst, w_new, w_list, w_listN, w_ix, w_ixT, w_ixD, w_inT1, w_notinT1, w_inT2, w_notinT2, w_inT3, w_notinT3, w_inT4, w_notinT4, w_inT5, w_notinT5, w_inT6, w_notinT6, w_inT7, w_notinT7, w_inT8, w_notinT8, w_sl1, at_0, at_1, at_2, at_3, at_4, at_5, hasTy_list, hasTy_str, isNonD, flatD, sEq_T, List.all_cons, List.all_nil, List.any_cons, List.any_nil, Bool.and_true, Bool.true_and, Bool.or_false, Bool.or_true, Bool.true_or, Bool.false_or, Bool.not_true, Bool.not_false, List.length_cons, List.length_nil, Nat.zero_add, Nat.reduceAdd, line_eq, true_and, and_true, String.reduceBEq, Int.reduceBEq, decide_true, decide_false, Int.reduceLT, Int.reduceLE, beq_self_eq_true, Nat.reduceLeDiff, wS_raise, wp_xinit, wp_sets0, wp_sets1, wp_fs, wp_xf, wp_xis, hdQ, setO, List.map_cons, List.map_nil, tabF_cons, tabF_nil, lview, w_inU1, w_inU2, w_inU3, w_inU4, w_notinU1, w_notinU2, w_notinU3, w_notinU4, wp_lcN, and_self, or_true, true_or, or_false, false_or, not_true_eq_false, not_false_eq_true, ne_eq, reduceCtorEq, List.cons.injEq, Bool.and_false, Bool.false_and, Bool.and_self, Bool.or_self, List.mem_cons, List.not_mem_nil, isSub, ty_tup, ty_lst, ty_int, ty_bl, ty_str, ty_non, nb, Bool.and_eq_true, Bool.or_eq_true, decide_eq_true_eq, beq_iff_eq, Int.cast_ofNat_Int, List.lookup_cons, List.lookup_nil, str_beq, insOf, not_true_eq_false, gok0]
    exact ⟨⟨_, rfl⟩, fun y hy => hx y (List.mem_cons_of_mem _ hy)⟩
  · obtain ⟨j, rfl, hj⟩ := rng_mem hx
    exact ⟨j, by congr 1; omega, by omega⟩
theorem w_inD {kvs : List (Str × D)} {z : Str} : wp (dIn (.str z) (.dic kvs) s) Q E = Q (.bl (kvs.lookup z).isSome) s := wp_ok
theorem fits_f {a : Int} {b l : D} (ha : fg a) (k : Q (.bl true) s) : wp (f_fits [.str (Str.ofString "f"), .int a, b, l] s) Q E := by
  refine (wp_fn (n := 4) (tot := 4) (m := m_fits) rfl).mpr ?_
  show wS (m_fits [some (.str (Str.ofString "f")), some (.int a), some b, some l] s) _ _
  obtain ⟨h0, h1⟩ := ha
  unfold m_fits c_BOUNDS d_BOUNDS
  try simp only [wp_rep, wp_meth, w_lenSo, w_tupT, w_tupL, List.length_map, wp_ok, wp_bad, wp_bind, wS_ok, wS_bad, wS_cons, wS_nil, wS_pass, wS_break, wS_cont, wS_never, wS_set, wS_expr, wS_ret, wS_retN, wS_if, wS_asg, wS_aug, wS_for, wp_lc, wp_m1, wp_m2, wp_mN, wp_aNil, wp_aCons, wp_mC, wp_var, wp_if2, wp_and2, wp_or2, wp_not, wp_chain2, isBl_bl, andK_p, orK_p, andV_p, orV_p, iteK_p, andK_t, andK_f, orK_t, orK_f, andV_t, andV_f, orV_t, orV_f, iteK_t, iteK_f, wp_tTru2, dTru_bl, dTru_lst, dTru_int, dTru_non, wp_mt, wp_get, wp_isi, wp_fld, wp_sl, wp_oNone, wp_oSome, wp_tBool, wp_tNot, wp_tAnd2, wp_tOr2, wp_tAll, wp_gSlot, wp_gsNil, wp_gsCons, wp_gTup, wp_gSub, wp_iAny, wp_iSeq, wp_iTup, wp_iStr, wp_iRange1, wp_iRange2, wp_iZip, wS_fld, wp_make, seqQ, rtQ, turnQ, List.getElem?_cons_zero, List.getElem?_cons_succ, List.set_cons_zero, List.set_cons_succ, wipeD, if_true, if_false, Bool.false_eq_true, Bool.true_eq_false, reduceIte, w_add, w_iadd, w_iaddS, w_addS, w_addL, w_addT, w_sub, w_mul, w_mod, w_fdiv, w_pow, w_neg, w_lt, w_le, w_gt, w_ge, w_eqI, w_neI, w_eqT, w_neT, w_isN, w_isnotN, w_isB, w_isNB, w_len, w_lenT, w_int, w_intB, w_abs, w_min, w_max, w_tup, w_lst, w_new, w_list, w_listN, w_ix, w_ixT, w_ixD, w_inT1, w_notinT1, w_inT2, w_notinT2, w_inT3, w_notinT3, w_inT4, w_notinT4, w_inT5, w_notinT5, w_inT6, w_notinT6, w_inT7, w_notinT7, w_inT8, w_notinT8, w_sl1, at_0, at_1, at_2, at_3, at_4, at_5, hasTy_list, hasTy_str, isNonD, flatD, sEq_T, List.all_cons, List.all_nil, List.any_cons, List.any_nil, Bool.and_true, Bool.true_and, Bool.or_false, Bool.or_true, Bool.true_or, Bool.false_or, Bool.not_true, Bool.not_false, List.length_cons, List.length_nil, Nat.zero_add, Nat.reduceAdd, line_eq, true_and, and_true, String.reduceBEq, Int.reduceBEq, decide_true, decide_false, Int.reduceLT, Int.reduceLE, beq_self_eq_true, Nat.reduceLeDiff, wS_raise, wp_xinit, wp_sets0, wp_sets1, wp_fs, wp_xf, wp_xis, hdQ, setO, List.map_cons, List.map_nil, tabF_cons, tabF_nil, lview, w_inU1, w_inU2, w_inU3, w_inU4, w_notinU1, w_notinU2, w_notinU3, w_notinU4, wp_lcN, and_self, or_true, true_or, or_false, false_or, not_true_eq_false, not_false_eq_true, ne_eq, reduceCtorEq, List.cons.injEq, Bool.and_false, Bool.false_and, Bool.and_self, Bool.or_self, List.mem_cons, List.not_mem_nil, isSub, ty_tup, ty_lst, ty_int, ty_bl, ty_str, ty_non, nb, Bool.and_eq_true, Bool.or_eq_true, decide_eq_true_eq, beq_iff_eq, Int.cast_ofNat_Int, List.lookup_cons, List.lookup_nil, str_beq, insOf, not_true_eq_false, gok0]
  rw [w_inD]
  try simp only [wp_rep, wp_meth, w_lenSo, w_tupT, w_tupL, List.length_map, wp_ok, wp_bad, wp_bind, wS_ok, wS_bad, wS_cons, wS_nil, wS_pass, wS_break, wS_cont, wS_never, wS_set, wS_expr, wS_ret, wS_retN, wS_if, wS_asg, wS_aug, wS_for, wp_lc, wp_m1, wp_m2, wp_mN, wp_aNil, wp_aCons, wp_mC, wp_var, wp_if2, wp_and2, wp_or2, wp_not, wp_chain2, isBl_bl, andK_p, orK_p, andV_p, orV_p, iteK_p, andK_t, andK_f, orK_t, orK_f, andV_t, andV_f, orV_t, orV_f, iteK_t, iteK_f, wp_tTru2, dTru_bl, dTru_lst, dTru_int, dTru_non, wp_mt, wp_get, wp_isi, wp_fld, wp_sl, wp_oNone, wp_oSome, wp_tBool, wp_tNot, wp_tAnd2, wp_tOr2, wp_tAll, wp_gSlot, wp_gsNil, wp_gsCons, wp_gTup, wp_gSub, wp_iAny, wp_iSeq, wp_iTup, wp_iStr, wp_iRange1, wp_iRange2, wp_iZip, wS_fld, wp_make, seqQ, rtQ, turnQ, List.getElem?_cons_zero, List.getElem?_cons_succ, List.set_cons_zero, List.set_cons_succ, wipeD, if_true, if_false, Bool.false_eq_true, Bool.true_eq_false, reduceIte, w_add, w_iadd, w_iaddS, w_addS, w_addL, w_addT, w_sub, w_mul, w_mod, w_fdiv, w_pow, w_neg, w_lt, w_le, w_gt, w_ge, w_eqI, w_neI, w_eqT, w_neT, w_isN, w_isnotN, w_isB, w_isNB, w_len, w_lenT, w_int, w_intB, w_abs, w_min, w_max, w_tup, w_lst, w_new, w_list, w_listN, w_ix, w_ixT, w_ixD, w_inT1, w_notinT1, w_inT2, w_notinT2, w_inT3, w_notinT3, w_inT4, w_notinT4, w_inT5, w_notinT5, w_inT6, w_notinT6, w_inT7, w_notinT7, w_inT8, w_notinT8, w_sl1, at_0, at_1, at_2, at_3, at_4, at_5, hasTy_list, hasTy_str, isNonD, flatD, sEq_T, List.all_cons, List.all_nil, List.any_cons, List.any_nil, Bool.and_true, Bool.true_and, Bool.or_false, Bool.or_true, Bool.true_or, Bool.false_or, Bool.not_true, Bool.not_false, List.length_cons, List.length_nil, Nat.zero_add, Nat.reduceAdd, line_eq, true_and, and_true, String.reduceBEq, Int.reduceBEq, decide_true, decide_false, Int.reduceLT, Int.reduceLE, beq_self_eq_true, Nat.reduceLeDiff, wS_raise, wp_xinit, wp_sets0, wp_sets1, wp_fs, wp_xf, wp_xis, hdQ, setO, List.map_cons, List.map_nil, tabF_cons, tabF_nil, lview, w_inU1, w_inU2, w_inU3, w_inU4, w_notinU1, w_notinU2, w_notinU3, w_notinU4, wp_lcN, and_self, or_true, true_or, or_false, false_or, not_true_eq_false, not_false_eq_true, ne_eq, reduceCtorEq, List.cons.injEq, Bool.and_false, Bool.false_and, Bool.and_self, Bool.or_self, List.mem_cons, List.not_mem_nil, isSub, ty_tup, ty_lst, ty_int, ty_bl, ty_str, ty_non, nb, Bool.and_eq_true, Bool.or_eq_true, decide_eq_true_eq, beq_iff_eq, Int.cast_ofNat_Int, List.lookup_cons, List.lookup_nil, str_beq, insOf, not_true_eq_false, gok0]
  rw [decide_eq_true h0, decide_eq_true h1]
  exact k
theorem fits_w {a : List Char} {b l : D} (k : Q (.bl true) s) : wp (f_fits [.str (Str.ofString "w"), .str (tx a), b, l] s) Q E := by
  refine (wp_fn (n := 4) (tot := 4) (m := m_fits) rfl).mpr ?_
  show wS (m_fits [some (.str (Str.ofString "w")), some (.str (tx a)), some b, some l] s) _ _
  unfold m_fits c_BOUNDS d_BOUNDS
  try simp only [wp_rep, wp_meth, w_lenSo, w_tupT, w_tupL, List.length_map, wp_ok, wp_bad, wp_bind, wS_ok, wS_bad, wS_cons, wS_nil, wS_pass, wS_break, wS_cont, wS_never, wS_set, wS_expr, wS_ret, wS_retN, wS_if, wS_asg, wS_aug, wS_for, wp_lc, wp_m1, wp_m2, wp_mN, wp_aNil, wp_aCons, wp_mC, wp_var, wp_if2, wp_and2, wp_or2, wp_not, wp_chain2, isBl_bl, andK_p, orK_p, andV_p, orV_p, iteK_p, andK_t, andK_f, orK_t, orK_f, andV_t, andV_f, orV_t, orV_f, iteK_t, iteK_f, wp_tTru2, dTru_bl, dTru_lst, dTru_int, dTru_non, wp_mt, wp_get, wp_isi, wp_fld, wp_sl, wp_oNone, wp_oSome, wp_tBool, wp_tNot, wp_tAnd2, wp_tOr2, wp_tAll, wp_gSlot, wp_gsNil, wp_gsCons, wp_gTup, wp_gSub, wp_iAny, wp_iSeq, wp_iTup, wp_iStr, wp_iRange1, wp_iRange2, wp_iZip, wS_fld, wp_make, seqQ, rtQ, turnQ, List.getElem?_cons_zero, List.getElem?_cons_succ, List.set_cons_zero, List.set_cons_succ, wipeD, if_true, if_false, Bool.false_eq_true, Bool.true_eq_false, reduceIte, w_add, w_iadd, w_iaddS, w_addS, w_addL, w_addT, w_sub, w_mul, w_mod, w_fdiv, w_pow, w_neg, w_lt, w_le, w_gt, w_ge, w_eqI, w_neI, w_eqT, w_neT, w_isN, w_isnotN, w_isB, w_isNB, w_len, w_lenT, w_int, w_intB, w_abs, w_min, w_max, w_tup, w_lst, w_new, w_list, w_listN, w_ix, w_ixT, w_ixD, w_inT1, w_notinT1, w_inT2, w_notinT2, w_inT3, w_notinT3, w_inT4, w_notinT4, w_inT5, w_notinT5, w_inT6, w_notinT6, w_inT7, w_notinT7, w_inT8, w_notinT8, w_sl1, at_0, at_1, at_2, at_3, at_4, at_5, hasTy_list, hasTy_str, isNonD, flatD, sEq_T, List.all_cons, List.all_nil, List.any_cons, List.any_nil, Bool.and_true, Bool.true_and, Bool.or_false, Bool.or_true, Bool.true_or, Bool.false_or, Bool.not_true, Bool.not_false, List.length_cons, List.length_nil, Nat.zero_add, Nat.reduceAdd, line_eq, true_and, and_true, String.reduceBEq, Int.reduceBEq, decide_true, decide_false, Int.reduceLT, Int.reduceLE, beq_self_eq_true, Nat.reduceLeDiff, wS_raise, wp_xinit, wp_sets0, wp_sets1, wp_fs, wp_xf, wp_xis, hdQ, setO, List.map_cons, List.map_nil, tabF_cons, tabF_nil, lview, w_inU1, w_inU2, w_inU3, w_inU4, w_notinU1, w_notinU2, w_notinU3, w_notinU4, wp_lcN, and_self, or_true, true_or, or_false, false_or, not_true_eq_false, not_false_eq_true, ne_eq, reduceCtorEq, List.cons.injEq, Bool.and_false, Bool.false_and, Bool.and_self, Bool.or_self, List.mem_cons, List.not_mem_nil, isSub, ty_tup, ty_lst, ty_int, ty_bl, ty_str, ty_non, nb, Bool.and_eq_true, Bool.or_eq_true, decide_eq_true_eq, beq_iff_eq, Int.cast_ofNat_Int, List.lookup_cons, List.lookup_nil, str_beq, insOf, not_true_eq_false, gok0]
  rw [w_inD]
  try simp only [wp_rep, wp_meth, w_lenSo, w_tupT, w_tupL, List.length_map, wp_ok, wp_bad, wp_bind, wS_ok, wS_bad, wS_cons, wS_nil, wS_pass, wS_break, wS_cont, wS_never, wS_set, wS_expr, wS_ret, wS_retN, wS_if, wS_asg, wS_aug, wS_for, wp_lc, wp_m1, wp_m2, wp_mN, wp_aNil, wp_aCons, wp_mC, wp_var, wp_if2, wp_and2, wp_or2, wp_not, wp_chain2, isBl_bl, andK_p, orK_p, andV_p, orV_p, iteK_p, andK_t, andK_f, orK_t, orK_f, andV_t, andV_f, orV_t, orV_f, iteK_t, iteK_f, wp_tTru2, dTru_bl, dTru_lst, dTru_int, dTru_non, wp_mt, wp_get, wp_isi, wp_fld, wp_sl, wp_oNone, wp_oSome, wp_tBool, wp_tNot, wp_tAnd2, wp_tOr2, wp_tAll, wp_gSlot, wp_gsNil, wp_gsCons, wp_gTup, wp_gSub, wp_iAny, wp_iSeq, wp_iTup, wp_iStr, wp_iRange1, wp_iRange2, wp_iZip, wS_fld, wp_make, seqQ, rtQ, turnQ, List.getElem?_cons_zero, List.getElem?_cons_succ, List.set_cons_zero, List.set_cons_succ, wipeD, if_true, if_false, Bool.false_eq_true, Bool.true_eq_false, reduceIte, w_add, w_iadd, w_iaddS, w_addS, w_addL, w_addT, w_sub, w_mul, w_mod, w_fdiv, w_pow, w_neg, w_lt, w_le, w_gt, w_ge, w_eqI, w_neI, w_eqT, w_neT, w_isN, w_isnotN, w_isB, w_isNB, w_len, w_lenT, w_int, w_intB, w_abs, w_min, w_max, w_tup, w_lst, w_new, w_list, w_listN, w_ix, w_ixT, w_ixD, w_inT1, w_notinT1, w_inT2, w_notinT2, w_inT3, w_notinT3, w_inT4, w_notinT4, w_inT5, w_notinT5, w_inT6, w_notinT6, w_inT7, w_notinT7, w_inT8, w_notinT8, w_sl1, at_0, at_1, at_2, at_3, at_4, at_5, hasTy_list, hasTy_str, isNonD, flatD, sEq_T, List.all_cons, List.all_nil, List.any_cons, List.any_nil, Bool.and_true, Bool.true_and, Bool.or_false, Bool.or_true, Bool.true_or, Bool.false_or, Bool.not_true, Bool.not_false, List.length_cons, List.length_nil, Nat.zero_add, Nat.reduceAdd, line_eq, true_and, and_true, String.reduceBEq, Int.reduceBEq, decide_true, decide_false, Int.reduceLT, Int.reduceLE, beq_self_eq_true, Nat.reduceLeDiff, wS_raise, wp_xinit, wp_sets0, wp_sets1, wp_fs, wp_xf, wp_xis, hdQ, setO, List.map_cons, List.map_nil, tabF_cons, tabF_nil, lview, w_inU1, w_inU2, w_inU3, w_inU4, w_notinU1, w_notinU2, w_notinU3, w_notinU4, wp_lcN, and_self, or_true, true_or, or_false, false_or, not_true_eq_false, not_false_eq_true, ne_eq, reduceCtorEq, List.cons.injEq, Bool.and_false, Bool.false_and, Bool.and_self, Bool.or_self, List.mem_cons, List.not_mem_nil, isSub, ty_tup, ty_lst, ty_int, ty_bl, ty_str, ty_non, nb, Bool.and_eq_true, Bool.or_eq_true, decide_eq_true_eq, beq_iff_eq, Int.cast_ofNat_Int, List.lookup_cons, List.lookup_nil, str_beq, insOf, not_true_eq_false, gok0]
  exact k
theorem fits_k {a b : Int} {l : D} (h0 : 0 ≤ a) (hb : a ≤ b) (k : Q (.bl true) s) : wp (f_fits [.str (Str.ofString "k"), .int a, .int b, l] s) Q E := by
  refine (wp_fn (n := 4) (tot := 4) (m := m_fits) rfl).mpr ?_
  show wS (m_fits [some (.str (Str.ofString "k")), some (.int a), some (.int b), some l] s) _ _
  unfold m_fits c_BOUNDS d_BOUNDS
  try simp only [wp_rep, wp_meth, w_lenSo, w_tupT, w_tupL, List.length_map, wp_ok, wp_bad, wp_bind, wS_ok, wS_bad, wS_cons, wS_nil, wS_pass, wS_break, wS_cont, wS_never, wS_set, wS_expr, wS_ret, wS_retN, wS_if, wS_asg, wS_aug, wS_for, wp_lc, wp_m1, wp_m2, wp_mN, wp_aNil, wp_aCons, wp_mC, wp_var, wp_if2, wp_and2, wp_or2, wp_not, wp_chain2, isBl_bl, andK_p, orK_p, andV_p, orV_p, iteK_p, andK_t, andK_f, orK_t, orK_f, andV_t, andV_f, orV_t, orV_f, iteK_t, iteK_f, wp_tTru2, dTru_bl, dTru_lst, dTru_int, dTru_non, wp_mt, wp_get, wp_isi, wp_fld, wp_sl, wp_oNone, wp_oSome, wp_tBool, wp_tNot, wp_tAnd2, wp_tOr2, wp_tAll, wp_gSlot, wp_gsNil, wp_gsCons, wp_gTup, wp_gSub, wp_iAny, wp_iSeq, wp_iTup, wp_iStr, wp_iRange1, wp_iRange2, wp_iZip, wS_fld, wp_make, seqQ, rtQ, turnQ, List.getElem?_cons_zero, List.getElem?_cons_succ, List.set_cons_zero, List.set_cons_succ, wipeD, if_true, if_false, Bool.false_eq_true, Bool.true_eq_false, reduceIte, w_add, w_iadd, w_iaddS, w_addS, w_addL, w_addT, w_sub, w_mul, w_mod, w_fdiv, w_pow, w_neg, w_lt, w_le, w_gt, w_ge, w_eqI, w_neI, w_eqT, w_neT, w_isN, w_isnotN, w_isB, w_isNB, w_len, w_lenT, w_int, w_intB, w_abs, w_min, w_max, w_tup, w_lst, w_new, w_list, w_listN, w_ix, w_ixT, w_ixD, w_inT1, w_notinT1, w_inT2, w_notinT2, w_inT3, w_notinT3, w_inT4, w_notinT4, w_inT5, w_notinT5, w_inT6, w_notinT6, w_inT7, w_notinT7, w_inT8, w_notinT8, w_sl1, at_0, at_1, at_2, at_3, at_4, at_5, hasTy_list, hasTy_str, isNonD, flatD, sEq_T, List.all_cons, List.all_nil, List.any_cons, List.any_nil, Bool.and_true, Bool.true_and, Bool.or_false, Bool.or_true, Bool.true_or, Bool.false_or, Bool.not_true, Bool.not_false, List.length_cons, List.length_nil, Nat.zero_add, Nat.reduceAdd, line_eq, true_and, and_true, String.reduceBEq, Int.reduceBEq, decide_true, decide_false, Int.reduceLT, Int.reduceLE, beq_self_eq_true, Nat.reduceLeDiff, wS_raise, wp_xinit, wp_sets0, wp_sets1, wp_fs, wp_xf, wp_xis, hdQ, setO, List.map_cons, List.map_nil, tabF_cons, tabF_nil, lview, w_inU1, w_inU2, w_inU3, w_inU4, w_notinU1, w_notinU2, w_notinU3, w_notinU4, wp_lcN, and_self, or_true, true_or, or_false, false_or, not_true_eq_false, not_false_eq_true, ne_eq, reduceCtorEq, List.cons.injEq, Bool.and_false, Bool.false_and, Bool.and_self, Bool.or_self, List.mem_cons, List.not_mem_nil, isSub, ty_tup, ty_lst, ty_int, ty_bl, ty_str, ty_non, nb, Bool.and_eq_true, Bool.or_eq_true, decide_eq_true_eq, beq_iff_eq, Int.cast_ofNat_Int, List.lookup_cons, List.lookup_nil, str_beq, insOf, not_true_eq_false, gok0]
  rw [w_inD]
  try simp only [wp_rep, wp_meth, w_lenSo, w_tupT, w_tupL, List.length_map, wp_ok, wp_bad, wp_bind, wS_ok, wS_bad, wS_cons, wS_nil, wS_pass, wS_break, wS_cont, wS_never, wS_set, wS_expr, wS_ret, wS_retN, wS_if, wS_asg, wS_aug, wS_for, wp_lc, wp_m1, wp_m2, wp_mN, wp_aNil, wp_aCons, wp_mC, wp_var, wp_if2, wp_and2, wp_or2, wp_not, wp_chain2, isBl_bl, andK_p, orK_p, andV_p, orV_p, iteK_p, andK_t, andK_f, orK_t, orK_f, andV_t, andV_f, orV_t, orV_f, iteK_t, iteK_f, wp_tTru2, dTru_bl, dTru_lst, dTru_int, dTru_non, wp_mt, wp_get, wp_isi, wp_fld, wp_sl, wp_oNone, wp_oSome, wp_tBool, wp_tNot, wp_tAnd2, wp_tOr2, wp_tAll, wp_gSlot, wp_gsNil, wp_gsCons, wp_gTup, wp_gSub, wp_iAny, wp_iSeq, wp_iTup, wp_iStr, wp_iRange1, wp_iRange2, wp_iZip, wS_fld, wp_make, seqQ, rtQ, turnQ, List.getElem?_cons_zero, List.getElem?_cons_succ, List.set_cons_zero, List.set_cons_succ, wipeD, if_true, if_false, Bool.false_eq_true, Bool.true_eq_false, reduceIte, w_add, w_iadd, w_iaddS, w_addS, w_addL, w_addT, w_sub, w_mul, w_mod, w_fdiv, w_pow, w_neg, w_lt, w_le, w_gt, w_ge, w_eqI, w_neI, w_eqT, w_neT, w_isN, w_isnotN, w_isB, w_isNB, w_len, w_lenT, w_int, w_intB, w_abs, w_min, w_max, w_tup, w_lst, w_new, w_list, w_listN, w_ix, w_ixT, w_ixD, w_inT1, w_notinT1, w_inT2, w_notinT2, w_inT3, w_notinT3, w_inT4, w_notinT4, w_inT5, w_notinT5, w_inT6, w_notinT6, w_inT7, w_notinT7, w_inT8, w_notinT8, w_sl1, at_0, at_1, at_2, at_3, at_4, at_5, hasTy_list, hasTy_str, isNonD, flatD, sEq_T, List.all_cons, List.all_nil, List.any_cons, List.any_nil, Bool.and_true, Bool.true_and, Bool.or_false, Bool.or_true, Bool.true_or, Bool.false_or, Bool.not_true, Bool.not_false, List.length_cons, List.length_nil, Nat.zero_add, Nat.reduceAdd, line_eq, true_and, and_true, String.reduceBEq, Int.reduceBEq, decide_true, decide_false, Int.reduceLT, Int.reduceLE, beq_self_eq_true, Nat.reduceLeDiff, wS_raise, wp_xinit, wp_sets0, wp_sets1, wp_fs, wp_xf, wp_xis, hdQ, setO, List.map_cons, List.map_nil, tabF_cons, tabF_nil, lview, w_inU1, w_inU2, w_inU3, w_inU4, w_notinU1, w_notinU2, w_notinU3, w_notinU4, wp_lcN, and_self, or_true, true_or, or_false, false_or, not_true_eq_false, not_false_eq_true, ne_eq, reduceCtorEq, List.cons.injEq, Bool.and_false, Bool.false_and, Bool.and_self, Bool.or_self, List.mem_cons, List.not_mem_nil, isSub, ty_tup, ty_lst, ty_int, ty_bl, ty_str, ty_non, nb, Bool.and_eq_true, Bool.or_eq_true, decide_eq_true_eq, beq_iff_eq, Int.cast_ofNat_Int, List.lookup_cons, List.lookup_nil, str_beq, insOf, not_true_eq_false, gok0]
  rw [decide_eq_true h0, decide_eq_true hb]
  exact k
theorem fits_l {c : Char} {b : D} (hc : c ∈ l) (k : Q (.bl true) s) : wp (f_fits [.str (Str.ofString "l"), .str (tx [c]), b, .str (tx l)] s) Q E := by
  refine (wp_fn (n := 4) (tot := 4) (m := m_fits) rfl).mpr ?_
  show wS (m_fits [some (.str (Str.ofString "l")), some (.str (tx [c])), some b, some (.str (tx l))] s) _ _
  unfold m_fits c_BOUNDS d_BOUNDS
  try simp only [wp_rep, wp_meth, w_lenSo, w_tupT, w_tupL, List.length_map, wp_ok, wp_bad, wp_bind, wS_ok, wS_bad, wS_cons, wS_nil, wS_pass, wS_break, wS_cont, wS_never, wS_set, wS_expr, wS_ret, wS_retN, wS_if, wS_asg, wS_aug, wS_for, wp_lc, wp_m1, wp_m2, wp_mN, wp_aNil, wp_aCons, wp_mC, wp_var, wp_if2, wp_and2, wp_or2, wp_not, wp_chain2, isBl_bl, andK_p, orK_p, andV_p, orV_p, iteK_p, andK_t, andK_f, orK_t, orK_f, andV_t, andV_f, orV_t, orV_f, iteK_t, iteK_f, wp_tTru2, dTru_bl, dTru_lst, dTru_int, dTru_non, wp_mt, wp_get, wp_isi, wp_fld, wp_sl, wp_oNone, wp_oSome, wp_tBool, wp_tNot, wp_tAnd2, wp_tOr2, wp_tAll, wp_gSlot, wp_gsNil, wp_gsCons, wp_gTup, wp_gSub, wp_iAny, wp_iSeq, wp_iTup, wp_iStr, wp_iRange1, wp_iRange2, wp_iZip, wS_fld, wp_make, seqQ, rtQ, turnQ, List.getElem?_cons_zero, List.getElem?_cons_succ, List.set_cons_zero, List.set_cons_succ, wipeD, if_true, if_false, Bool.false_eq_true, Bool.true_eq_false, reduceIte, w_add, w_iadd, w_iaddS, w_addS, w_addL, w_addT, w_sub, w_mul, w_mod, w_fdiv, w_pow, w_neg, w_lt, w_le, w_gt, w_ge, w_eqI, w_neI, w_eqT, w_neT, w_isN, w_isnotN, w_isB, w_isNB, w_len, w_lenT, w_int, w_intB, w_abs, w_min, w_max, w_tup, w_lst, w_new, w_list, w_listN, w_ix, w_ixT, w_ixD, w_inT1, w_notinT1, w_inT2, w_notinT2, w_inT3, w_notinT3, w_inT4, w_notinT4, w_inT5, w_notinT5, w_inT6, w_notinT6, w_inT7, w_notinT7, w_inT8, w_notinT8, w_sl1, at_0, at_1, at_2, at_3, at_4, at_5, hasTy_list, hasTy_str, isNonD, flatD, sEq_T, List.all_cons, List.all_nil, List.any_cons, List.any_nil, Bool.and_true, Bool.true_and, Bool.or_false, Bool.or_true, Bool.true_or, Bool.false_or, Bool.not_true, Bool.not_false, List.length_cons, List.length_nil, Nat.zero_add, Nat.reduceAdd, line_eq, true_and, and_true, String.reduceBEq, Int.reduceBEq, decide_true, decide_false, Int.reduceLT, Int.reduceLE, beq_self_eq_true, Nat.reduceLeDiff, wS_raise, wp_xinit, wp_sets0, wp_sets1, wp_fs, wp_xf, wp_xis, hdQ, setO, List.map_cons, List.map_nil, tabF_cons, tabF_nil, lview, w_inU1, w_inU2, w_inU3, w_inU4, w_notinU1, w_notinU2, w_notinU3, w_notinU4, wp_lcN, and_self, or_true, true_or, or_false, false_or, not_true_eq_false, not_false_eq_true, ne_eq, reduceCtorEq, List.cons.injEq, Bool.and_false, Bool.false_and, Bool.and_self, Bool.or_self, List.mem_cons, List.not_mem_nil, isSub, ty_tup, ty_lst, ty_int, ty_bl, ty_str, ty_non, nb, Bool.and_eq_true, Bool.or_eq_true, decide_eq_true_eq, beq_iff_eq, Int.cast_ofNat_Int, List.lookup_cons, List.lookup_nil, str_beq, insOf, not_true_eq_false, gok0]
  rw [w_inD]
  try simp only [wp_rep, wp_meth, w_lenSo, w_tupT, w_tupL, List.length_map, wp_ok, wp_bad, wp_bind, wS_ok, wS_bad, wS_cons, wS_nil, wS_pass, wS_break, wS_cont, wS_never, wS_set, wS_expr, wS_ret, wS_retN, wS_if, wS_asg, wS_aug, wS_for, wp_lc, wp_m1, wp_m2, wp_mN, wp_aNil, wp_aCons, wp_mC, wp_var, wp_if2, wp_and2, wp_or2, wp_not, wp_chain2, isBl_bl, andK_p, orK_p, andV_p, orV_p, iteK_p, andK_t, andK_f, orK_t, orK_f, andV_t, andV_f, orV_t, orV_f, iteK_t, iteK_f, wp_tTru2, dTru_bl, dTru_lst, dTru_int, dTru_non, wp_mt, wp_get, wp_isi, wp_fld, wp_sl, wp_oNone, wp_oSome, wp_tBool, wp_tNot, wp_tAnd2, wp_tOr2, wp_tAll, wp_gSlot, wp_gsNil, wp_gsCons, wp_gTup, wp_gSub, wp_iAny, wp_iSeq, wp_iTup, wp_iStr, wp_iRange1, wp_iRange2, wp_iZip, wS_fld, wp_make, seqQ, rtQ, turnQ, List.getElem?_cons_zero, List.getElem?_cons_succ, List.set_cons_zero, List.set_cons_succ, wipeD, if_true, if_false, Bool.false_eq_true, Bool.true_eq_false, reduceIte, w_add, w_iadd, w_iaddS, w_addS, w_addL, w_addT, w_sub, w_mul, w_mod, w_fdiv, w_pow, w_neg, w_lt, w_le, w_gt, w_ge, w_eqI, w_neI, w_eqT, w_neT, w_isN, w_isnotN, w_isB, w_isNB, w_len, w_lenT, w_int, w_intB, w_abs, w_min, w_max, w_tup, w_lst, w_new, w_list, w_listN, w_ix, w_ixT, w_ixD, w_inT1, w_notinT1, w_inT2, w_notinT2, w_inT3, w_notinT3, w_inT4, w_notinT4, w_inT5, w_notinT5, w_inT6, w_notinT6, w_inT7, w_notinT7, w_inT8, w_notinT8, w_sl1, at_0, at_1, at_2, at_3, at_4, at_5, hasTy_list, hasTy_str, isNonD, flatD, sEq_T, List.all_cons, List.all_nil, List.any_cons, List.any_nil, Bool.and_true, Bool.true_and, Bool.or_false, Bool.or_true, Bool.true_or, Bool.false_or, Bool.not_true, Bool.not_false, List.length_cons, List.length_nil, Nat.zero_add, Nat.reduceAdd, line_eq, true_and, and_true, String.reduceBEq, Int.reduceBEq, decide_true, decide_false, Int.reduceLT, Int.reduceLE, beq_self_eq_true, Nat.reduceLeDiff, wS_raise, wp_xinit, wp_sets0, wp_sets1, wp_fs, wp_xf, wp_xis, hdQ, setO, List.map_cons, List.map_nil, tabF_cons, tabF_nil, lview, w_inU1, w_inU2, w_inU3, w_inU4, w_notinU1, w_notinU2, w_notinU3, w_notinU4, wp_lcN, and_self, or_true, true_or, or_false, false_or, not_true_eq_false, not_false_eq_true, ne_eq, reduceCtorEq, List.cons.injEq, Bool.and_false, Bool.false_and, Bool.and_self, Bool.or_self, List.mem_cons, List.not_mem_nil, isSub, ty_tup, ty_lst, ty_int, ty_bl, ty_str, ty_non, nb, Bool.and_eq_true, Bool.or_eq_true, decide_eq_true_eq, beq_iff_eq, Int.cast_ofNat_Int, List.lookup_cons, List.lookup_nil, str_beq, insOf, not_true_eq_false, gok0]
  rw [if_neg (by simp), x_len]
  try simp only [wp_rep, wp_meth, w_lenSo, w_tupT, w_tupL, List.length_map, wp_ok, wp_bad, wp_bind, wS_ok, wS_bad, wS_cons, wS_nil, wS_pass, wS_break, wS_cont, wS_never, wS_set, wS_expr, wS_ret, wS_retN, wS_if, wS_asg, wS_aug, wS_for, wp_lc, wp_m1, wp_m2, wp_mN, wp_aNil, wp_aCons, wp_mC, wp_var, wp_if2, wp_and2, wp_or2, wp_not, wp_chain2, isBl_bl, andK_p, orK_p, andV_p, orV_p, iteK_p, andK_t, andK_f, orK_t, orK_f, andV_t, andV_f, orV_t, orV_f, iteK_t, iteK_f, wp_tTru2, dTru_bl, dTru_lst, dTru_int, dTru_non, wp_mt, wp_get, wp_isi, wp_fld, wp_sl, wp_oNone, wp_oSome, wp_tBool, wp_tNot, wp_tAnd2, wp_tOr2, wp_tAll, wp_gSlot, wp_gsNil, wp_gsCons, wp_gTup, wp_gSub, wp_iAny, wp_iSeq, wp_iTup, wp_iStr, wp_iRange1, wp_iRange2, wp_iZip, wS_fld, wp_make, seqQ, rtQ, turnQ, List.getElem?_cons_zero, List.getElem?_cons_succ, List.set_cons_zero, List.set_cons_succ, wipeD, if_true, if_false, Bool.false_eq_true, Bool.true_eq_false, reduceIte, w_add, w_iadd, w_iaddS, w_addS, w_addL, w_addT, w_sub, w_mul, w_mod, w_fdiv, w_pow, w_neg, w_lt, w_le, w_gt, w_ge, w_eqI, w_neI, w_eqT, w_neT, w_isN, w_isnotN, w_isB, w_isNB, w_len, w_lenT, w_int, w_intB, w_abs, w_min, w_max, w_tup, w_lst, w_new, w_list, w_listN, w_ix, w_ixT, w_ixD, w_inT1, w_notinT1, w_inT2, w_notinT2, w_inT3, w_notinT3, w_inT4, w_notinT4, w_inT5, w_notinT5, w_inT6, w_notinT6, w_inT7, w_notinT7, w_inT8, w_notinT8, w_sl1, at_0, at_1, at_2, at_3, at_4, at_5, hasTy_list, hasTy_str, isNonD, flatD, sEq_T, List.all_cons, List.all_nil, List.any_cons, List.any_nil, Bool.and_true, Bool.true_and, Bool.or_false, Bool.or_true, Bool.true_or, Bool.false_or, Bool.not_true, Bool.not_false, List.length_cons, List.length_nil, Nat.zero_add, Nat.reduceAdd, line_eq, true_and, and_true, String.reduceBEq, Int.reduceBEq, decide_true, decide_false, Int.reduceLT, Int.reduceLE, beq_self_eq_true, Nat.reduceLeDiff, wS_raise, wp_xinit, wp_sets0, wp_sets1, wp_fs, wp_xf, wp_xis, hdQ, setO, List.map_cons, List.map_nil, tabF_cons, tabF_nil, lview, w_inU1, w_inU2, w_inU3, w_inU4, w_notinU1, w_notinU2, w_notinU3, w_notinU4, wp_lcN, and_self, or_true, true_or, or_false, false_or, not_true_eq_false, not_false_eq_true, ne_eq, reduceCtorEq, List.cons.injEq, Bool.and_false, Bool.false_and, Bool.and_self, Bool.or_self, List.mem_cons, List.not_mem_nil, isSub, ty_tup, ty_lst, ty_int, ty_bl, ty_str, ty_non, nb, Bool.and_eq_true, Bool.or_eq_true, decide_eq_true_eq, beq_iff_eq, Int.cast_ofNat_Int, List.lookup_cons, List.lookup_nil, str_beq, insOf, not_true_eq_false, gok0]
  rw [x_in, decide_eq_true hc]
  exact k
/-- the shape of a word -/
def TO.shape : TO → List String
  | .sign _ _ => ["l", "k"]
  | .kept _ _ => ["l", "k"]
  | .write _ => ["w"]
  | .raise _ => ["f"]
  | .lower _ => ["f"]
  | .up _ _ => ["f", "k"]
  | .down _ _ => ["f", "k"]
  | .skip _ => ["k"]
  | _ => []
def pn (b : Bool) : String := if b = true then "body" else "finish"
def shp (o : TO) : String := String.ofList (o.shape.flatMap String.toList)
theorem shape_wp {o : TO} {b : Bool} {i : Int} (ho : o.ok l b i) (k : ∀ z : String, (Str.ofString z).cps.toList.map (fun c => D.str ⟨#[c]⟩) = o.shape.map (fun x => .str (Str.ofString x)) → z.length = o.shape.length → Q (.str (Str.ofString z)) s) : wp (f_shape_of [.str (Str.ofString (pn b)), .str (Str.ofString o.word)] s) Q E := by
  refine (wp_fn (n := 2) (tot := 2) (m := m_shape_of) rfl).mpr ?_
  show wS (m_shape_of [some (.str (Str.ofString (pn b))), some (.str (Str.ofString o.word))] s) _ _
  have k0 : o.shape = [] → Q (.str (Str.ofString "")) s := fun h => k "" (by rw [h]; rfl) (by rw [h]; rfl)
  have k1 : o.shape = ["l", "k"] → Q (.str (Str.ofString "lk")) s := fun h => k "lk" (by rw [h]; simp only [ofS, tx_chars]; rfl) (by rw [h]; rfl)
  have k2 : o.shape = ["w"] → Q (.str (Str.ofString "w")) s := fun h => k "w" (by rw [h]; simp only [ofS, tx_chars]; rfl) (by rw [h]; rfl)
  have k3 : o.shape = ["f"] → Q (.str (Str.ofString "f")) s := fun h => k "f" (by rw [h]; simp only [ofS, tx_chars]; rfl) (by rw [h]; rfl)
  have k4 : o.shape = ["f", "k"] → Q (.str (Str.ofString "fk")) s := fun h => k "fk" (by rw [h]; simp only [ofS, tx_chars]; rfl) (by rw [h]; rfl)
  have k5 : o.shape = ["k"] → Q (.str (Str.ofString "k")) s := fun h => k "k" (by rw [h]; simp only [ofS, tx_chars]; rfl) (by rw [h]; rfl)
  unfold m_shape_of c_BODY_ORDERS d_BODY_ORDERS c_FINISH_ORDERS d_FINISH_ORDERS c_NUMBER_ORDERS d_NUMBER_ORDERS
  cases b
  · simp only [pn, Bool.false_eq_true, if_false]
    cases o <;> simp only [TO.word] <;> try simp only [wp_rep, wp_meth, w_lenSo, w_tupT, w_tupL, List.length_map, wp_ok, wp_bad, wp_bind, wS_ok, wS_bad, wS_cons, wS_nil, wS_pass, wS_break, wS_cont, wS_never, wS_set, wS_expr, wS_ret, wS_retN, wS_if, wS_asg, wS_aug, wS_for, wp_lc, wp_m1, wp_m2, wp_mN, wp_aNil, wp_aCons, wp_mC, wp_var, wp_if2, wp_and2, wp_or2, wp_not, wp_chain2, isBl_bl, andK_p, orK_p, andV_p, orV_p, iteK_p, andK_t, andK_f, orK_t, orK_f, andV_t, andV_f, orV_t, orV_f, iteK_t, iteK_f, wp_tTru2, dTru_bl, dTru_lst, dTru_int, dTru_non, wp_mt, wp_get, wp_isi, wp_fld, wp_sl, wp_oNone, wp_oSome, wp_tBool, wp_tNot, wp_tAnd2, wp_tOr2, wp_tAll, wp_gSlot, wp_gsNil, wp_gsCons, wp_gTup, wp_gSub, wp_iAny, wp_iSeq, wp_iTup, wp_iStr, wp_iRange1, wp_iRange2, wp_iZip, wS_fld, wp_make, seqQ, rtQ, turnQ, List.getElem?_cons_zero, List.getElem?_cons_succ, List.set_cons_zero, List.set_cons_succ, wipeD, if_true, if_false, Bool.false_eq_true, Bool.true_eq_false, reduceIte, w_add, w_iadd, w_iaddS, w_addS, w_addL, w_addT, w_sub, w_mul, w_mod, w_fdiv, w_pow, w_neg, w_lt, w_le, w_gt, w_ge, w_eqI, w_neI, w_eqT, w_neT, w_isN, w_isnotN, w_isB, w_isNB, w_len, w_lenT, w_int, w_intB, w_abs, w_min, w_max, w_tup, w_lst, w_new, w_list, w_listN, w_ix, w_ixT, w_ixD, w_inT1, w_notinT1, w_inT2, w_notinT2, w_inT3, w_notinT3, w_inT4, w_notinT4, w_inT5, w_notinT5, w_inT6, w_notinT6, w_inT7, w_notinT7, w_inT8, w_notinT8, w_sl1, at_0, at_1, at_2, at_3, at_4, at_5, hasTy_list, hasTy_str, isNonD, flatD, sEq_T, List.all_cons, List.all_nil, List.any_cons, List.any_nil, Bool.and_true, Bool.true_and, Bool.or_false, Bool.or_true, Bool.true_or, Bool.false_or, Bool.not_true, Bool.not_false, List.length_cons, List.length_nil, Nat.zero_add, Nat.reduceAdd, line_eq, true_and, and_true, String.reduceBEq, Int.reduceBEq, decide_true, decide_false, Int.reduceLT, Int.reduceLE, beq_self_eq_true, Nat.reduceLeDiff, wS_raise, wp_xinit, wp_sets0, wp_sets1, wp_fs, wp_xf, wp_xis, hdQ, setO, List.map_cons, List.map_nil, tabF_cons, tabF_nil, lview, w_inU1, w_inU2, w_inU3, w_inU4, w_notinU1, w_notinU2, w_notinU3, w_notinU4, wp_lcN, and_self, or_true, true_or, or_false, false_or, not_true_eq_false, not_false_eq_true, ne_eq, reduceCtorEq, List.cons.injEq, Bool.and_false, Bool.false_and, Bool.and_self, Bool.or_self, List.mem_cons, List.not_mem_nil, isSub, ty_tup, ty_lst, ty_int, ty_bl, ty_str, ty_non, nb, Bool.and_eq_true, Bool.or_eq_true, decide_eq_true_eq, beq_iff_eq, Int.cast_ofNat_Int, List.lookup_cons, List.lookup_nil, str_beq, insOf, not_true_eq_false, gok0] <;> (try simp only [Option.getD_some]) <;> first
      | exact k0 rfl
      | exact k1 rfl
      | exact k2 rfl
      | exact k3 rfl
      | exact k4 rfl
      | exact k5 rfl
      | exact absurd ho.2.2 (by decide)
      | exact absurd (show false = true from ho) (by decide)
  · simp only [pn, if_true]
    cases o <;> simp only [TO.word] <;> try simp only [wp_rep, wp_meth, w_lenSo, w_tupT, w_tupL, List.length_map, wp_ok, wp_bad, wp_bind, wS_ok, wS_bad, wS_cons, wS_nil, wS_pass, wS_break, wS_cont, wS_never, wS_set, wS_expr, wS_ret, wS_retN, wS_if, wS_asg, wS_aug, wS_for, wp_lc, wp_m1, wp_m2, wp_mN, wp_aNil, wp_aCons, wp_mC, wp_var, wp_if2, wp_and2, wp_or2, wp_not, wp_chain2, isBl_bl, andK_p, orK_p, andV_p, orV_p, iteK_p, andK_t, andK_f, orK_t, orK_f, andV_t, andV_f, orV_t, orV_f, iteK_t, iteK_f, wp_tTru2, dTru_bl, dTru_lst, dTru_int, dTru_non, wp_mt, wp_get, wp_isi, wp_fld, wp_sl, wp_oNone, wp_oSome, wp_tBool, wp_tNot, wp_tAnd2, wp_tOr2, wp_tAll, wp_gSlot, wp_gsNil, wp_gsCons, wp_gTup, wp_gSub, wp_iAny, wp_iSeq, wp_iTup, wp_iStr, wp_iRange1, wp_iRange2, wp_iZip, wS_fld, wp_make, seqQ, rtQ, turnQ, List.getElem?_cons_zero, List.getElem?_cons_succ, List.set_cons_zero, List.set_cons_succ, wipeD, if_true, if_false, Bool.false_eq_true, Bool.true_eq_false, reduceIte, w_add, w_iadd, w_iaddS, w_addS, w_addL, w_addT, w_sub, w_mul, w_mod, w_fdiv, w_pow, w_neg, w_lt, w_le, w_gt, w_ge, w_eqI, w_neI, w_eqT, w_neT, w_isN, w_isnotN, w_isB, w_isNB, w_len, w_lenT, w_int, w_intB, w_abs, w_min, w_max, w_tup, w_lst, w_new, w_list, w_listN, w_ix, w_ixT, w_ixD, w_inT1, w_notinT1, w_inT2, w_notinT2, w_inT3, w_notinT3, w_inT4, w_notinT4, w_inT5, w_notinT5, w_inT6, w_notinT6, w_inT7, w_notinT7, w_inT8, w_notinT8, w_sl1, at_0, at_1, at_2, at_3, at_4, at_5, hasTy_list, hasTy_str, isNonD, flatD, sEq_T, List.all_cons, List.all_nil, List.any_cons, List.any_nil, Bool.and_true, Bool.true_and, Bool.or_false, Bool.or_true, Bool.true_or, Bool.false_or, Bool.not_true, Bool.not_false, List.length_cons, List.length_nil, Nat.zero_add, Nat.reduceAdd, line_eq, true_and, and_true, String.reduceBEq, Int.reduceBEq, decide_true, decide_false, Int.reduceLT, Int.reduceLE, beq_self_eq_true, Nat.reduceLeDiff, wS_raise, wp_xinit, wp_sets0, wp_sets1, wp_fs, wp_xf, wp_xis, hdQ, setO, List.map_cons, List.map_nil, tabF_cons, tabF_nil, lview, w_inU1, w_inU2, w_inU3, w_inU4, w_notinU1, w_notinU2, w_notinU3, w_notinU4, wp_lcN, and_self, or_true, true_or, or_false, false_or, not_true_eq_false, not_false_eq_true, ne_eq, reduceCtorEq, List.cons.injEq, Bool.and_false, Bool.false_and, Bool.and_self, Bool.or_self, List.mem_cons, List.not_mem_nil, isSub, ty_tup, ty_lst, ty_int, ty_bl, ty_str, ty_non, nb, Bool.and_eq_true, Bool.or_eq_true, decide_eq_true_eq, beq_iff_eq, Int.cast_ofNat_Int, List.lookup_cons, List.lookup_nil, str_beq, insOf, not_true_eq_false, gok0] <;> (try simp only [Option.getD_some]) <;> first
      | exact k0 rfl
      | exact k1 rfl
      | exact k2 rfl
      | exact k3 rfl
      | exact k4 rfl
      | exact k5 rfl
theorem args_len (o : TO) : o.args.length = o.shape.length := by cases o <;> rfl
/-- each thing behind the word fits -/
def Fit (l : List Char) (b : Int) : List String → List D → Prop
  | x :: xs, a :: as => (∀ {s : S} {Q : D → S → Prop} {E : D → S → Prop}, Q (.bl true) s → wp (f_fits [.str (Str.ofString x), a, .int b, .str (tx l)] s) Q E) ∧ Fit l b xs as
  | _, _ => True
theorem fit_ok {b : Bool} {i : Int} {o : TO} (h : o.ok l b i) : Fit l i o.shape o.args := by
  cases o with
  | sign c j => exact ⟨fun k => fits_l h.1 k, fun k => fits_k h.2.1.1 h.2.1.2 k, trivial⟩
  | kept c j => exact ⟨fun k => fits_l h.1 k, fun k => fits_k h.2.1 h.2.2 k, trivial⟩
  | write w => exact ⟨fun k => fits_w k, trivial⟩
  | raise f => exact ⟨fun k => fits_f h k, trivial⟩
  | lower f => exact ⟨fun k => fits_f h k, trivial⟩
  | up f j => exact ⟨fun k => fits_f h.1 k, fun k => fits_k h.2.1 h.2.2 k, trivial⟩
  | down f j => exact ⟨fun k => fits_f h.1 k, fun k => fits_k h.2.1 h.2.2 k, trivial⟩
  | skip j => exact ⟨fun k => fits_k h.1 h.2 k, trivial⟩
  | _ => trivial
def fit_g : MG := gTupD 2 (gsCons (gSlot 5) (gsCons (gSlot 6) gsNil))
def fit_b : MS := (sIf (tNot1 (tTru dTru (mN f_fits (aCons (mVar 5) (aCons (mVar 6) (aCons (mVar 2) (aCons (mVar 3) aNil)))))))
  (sRet (mC (.bl false)))
  ssNil)
theorem fit_loop {b : Int} {all : List D} {v0 v1 v4 : Option D} {Q' : C → S → Prop} {E' : D → Rho → S → Prop} : ∀ (xs : List String) (as : List D) (v5 v6 : Option D), Fit l b xs as → (∀ v5 v6, Q' (.nx [v0, v1, some (.int b), some (.str (tx l)), v4, v5, v6]) s) →
    wS (forL none all fit_g fit_b (zipD (xs.map fun x => .str (Str.ofString x)) as) [v0, v1, some (.int b), some (.str (tx l)), v4, v5, v6] s) Q' E'
  | [], as, v5, v6, _, k => by
    have e : zipD (([] : List String).map fun x => D.str (Str.ofString x)) as = [] := by cases as <;> rfl
    rw [e, wS_forL_nil]
    exact ⟨trivial, k _ _⟩
  | x :: xs, [], v5, v6, _, k => by
    have e : zipD ((x :: xs).map fun x => D.str (Str.ofString x)) ([] : List D) = [] := rfl
    rw [e, wS_forL_nil]
    exact ⟨trivial, k _ _⟩
  | x :: xs, a :: as, v5, v6, h, k => by
    have e : zipD ((x :: xs).map fun x => D.str (Str.ofString x)) (a :: as) = .tup [.str (Str.ofString x), a] :: zipD (xs.map fun x => .str (Str.ofString x)) as := rfl
    rw [e, wS_forL_cons]
    refine ⟨trivial, ?_⟩
    unfold fit_g
    try simp only [wp_rep, wp_meth, w_lenSo, w_tupT, w_tupL, List.length_map, wp_ok, wp_bad, wp_bind, wS_ok, wS_bad, wS_cons, wS_nil, wS_pass, wS_break, wS_cont, wS_never, wS_set, wS_expr, wS_ret, wS_retN, wS_if, wS_asg, wS_aug, wS_for, wp_lc, wp_m1, wp_m2, wp_mN, wp_aNil, wp_aCons, wp_mC, wp_var, wp_if2, wp_and2, wp_or2, wp_not, wp_chain2, isBl_bl, andK_p, orK_p, andV_p, orV_p, iteK_p, andK_t, andK_f, orK_t, orK_f, andV_t, andV_f, orV_t, orV_f, iteK_t, iteK_f, wp_tTru2, dTru_bl, dTru_lst, dTru_int, dTru_non, wp_mt, wp_get, wp_isi, wp_fld, wp_sl, wp_oNone, wp_oSome, wp_tBool, wp_tNot, wp_tAnd2, wp_tOr2, wp_tAll, wp_gSlot, wp_gsNil, wp_gsCons, wp_gTup, wp_gSub, wp_iAny, wp_iSeq, wp_iTup, wp_iStr, wp_iRange1, wp_iRange2, wp_iZip, wS_fld, wp_make, seqQ, rtQ, turnQ, List.getElem?_cons_zero, List.getElem?_cons_succ, List.set_cons_zero, List.set_cons_succ, wipeD, if_true, if_false, Bool.false_eq_true, Bool.true_eq_false, reduceIte, w_add, w_iadd, w_iaddS, w_addS, w_addL, w_addT, w_sub, w_mul, w_mod, w_fdiv, w_pow, w_neg, w_lt, w_le, w_gt, w_ge, w_eqI, w_neI, w_eqT, w_neT, w_isN, w_isnotN, w_isB, w_isNB, w_len, w_lenT, w_int, w_intB, w_abs, w_min, w_max, w_tup, w_lst, w_new, w_list, w_listN, w_ix, w_ixT, w_ixD, w_inT1, w_notinT1, w_inT2, w_notinT2, w_inT3, w_notinT3, w_inT4, w_notinT4, w_inT5, w_notinT5, w_inT6, w_notinT6, w_inT7, w_notinT7, w_inT8, w_notinT8, w_sl1, at_0, at_1, at_2, at_3, at_4, at_5, hasTy_list, hasTy_str, isNonD, flatD, sEq_T, List.all_cons, List.all_nil, List.any_cons, List.any_nil, Bool.and_true, Bool.true_and, Bool.or_false, Bool.or_true, Bool.true_or, Bool.false_or, Bool.not_true, Bool.not_false, List.length_cons, List.length_nil, Nat.zero_add, Nat.reduceAdd, line_eq, true_and, and_true, String.reduceBEq, Int.reduceBEq, decide_true, decide_false, Int.reduceLT, Int.reduceLE, beq_self_eq_true, Nat.reduceLeDiff, wS_raise, wp_xinit, wp_sets0, wp_sets1, wp_fs, wp_xf, wp_xis, hdQ, setO, List.map_cons, List.map_nil, tabF_cons, tabF_nil, lview, w_inU1, w_inU2, w_inU3, w_inU4, w_notinU1, w_notinU2, w_notinU3, w_notinU4, wp_lcN, and_self, or_true, true_or, or_false, false_or, not_true_eq_false, not_false_eq_true, ne_eq, reduceCtorEq, List.cons.injEq, Bool.and_false, Bool.false_and, Bool.and_self, Bool.or_self, List.mem_cons, List.not_mem_nil, isSub, ty_tup, ty_lst, ty_int, ty_bl, ty_str, ty_non, nb, Bool.and_eq_true, Bool.or_eq_true, decide_eq_true_eq, beq_iff_eq, Int.cast_ofNat_Int, List.lookup_cons, List.lookup_nil, str_beq, insOf, not_true_eq_false, gok0]
    rw [show fit_b = _ from by unfold fit_b; rfl]
    try simp only [wp_rep, wp_meth, w_lenSo, w_tupT, w_tupL, List.length_map, wp_ok, wp_bad, wp_bind, wS_ok, wS_bad, wS_cons, wS_nil, wS_pass, wS_break, wS_cont, wS_never, wS_set, wS_expr, wS_ret, wS_retN, wS_if, wS_asg, wS_aug, wS_for, wp_lc, wp_m1, wp_m2, wp_mN, wp_aNil, wp_aCons, wp_mC, wp_var, wp_if2, wp_and2, wp_or2, wp_not, wp_chain2, isBl_bl, andK_p, orK_p, andV_p, orV_p, iteK_p, andK_t, andK_f, orK_t, orK_f, andV_t, andV_f, orV_t, orV_f, iteK_t, iteK_f, wp_tTru2, dTru_bl, dTru_lst, dTru_int, dTru_non, wp_mt, wp_get, wp_isi, wp_fld, wp_sl, wp_oNone, wp_oSome, wp_tBool, wp_tNot, wp_tAnd2, wp_tOr2, wp_tAll, wp_gSlot, wp_gsNil, wp_gsCons, wp_gTup, wp_gSub, wp_iAny, wp_iSeq, wp_iTup, wp_iStr, wp_iRange1, wp_iRange2, wp_iZip, wS_fld, wp_make, seqQ, rtQ, turnQ, List.getElem?_cons_zero, List.getElem?_cons_succ, List.set_cons_zero, List.set_cons_succ, wipeD, if_true, if_false, Bool.false_eq_true, Bool.true_eq_false, reduceIte, w_add, w_iadd, w_iaddS, w_addS, w_addL, w_addT, w_sub, w_mul, w_mod, w_fdiv, w_pow, w_neg, w_lt, w_le, w_gt, w_ge, w_eqI, w_neI, w_eqT, w_neT, w_isN, w_isnotN, w_isB, w_isNB, w_len, w_lenT, w_int, w_intB, w_abs, w_min, w_max, w_tup, w_lst, w_new, w_list, w_listN, w_ix, w_ixT, w_ixD, w_inT1, w_notinT1, w_inT2, w_notinT2, w_inT3, w_notinT3, w_inT4, w_notinT4, w_inT5, w_notinT5, w_inT6, w_notinT6, w_inT7, w_notinT7, w_inT8, w_notinT8, w_sl1, at_0, at_1, at_2, at_3, at_4, at_5, hasTy_list, hasTy_str, isNonD, flatD, sEq_T, List.all_cons, List.all_nil, List.any_cons, List.any_nil, Bool.and_true, Bool.true_and, Bool.or_false, Bool.or_true, Bool.true_or, Bool.false_or, Bool.not_true, Bool.not_false, List.length_cons, List.length_nil, Nat.zero_add, Nat.reduceAdd, line_eq, true_and, and_true, String.reduceBEq, Int.reduceBEq, decide_true, decide_false, Int.reduceLT, Int.reduceLE, beq_self_eq_true, Nat.reduceLeDiff, wS_raise, wp_xinit, wp_sets0, wp_sets1, wp_fs, wp_xf, wp_xis, hdQ, setO, List.map_cons, List.map_nil, tabF_cons, tabF_nil, lview, w_inU1, w_inU2, w_inU3, w_inU4, w_notinU1, w_notinU2, w_notinU3, w_notinU4, wp_lcN, and_self, or_true, true_or, or_false, false_or, not_true_eq_false, not_false_eq_true, ne_eq, reduceCtorEq, List.cons.injEq, Bool.and_false, Bool.false_and, Bool.and_self, Bool.or_self, List.mem_cons, List.not_mem_nil, isSub, ty_tup, ty_lst, ty_int, ty_bl, ty_str, ty_non, nb, Bool.and_eq_true, Bool.or_eq_true, decide_eq_true_eq, beq_iff_eq, Int.cast_ofNat_Int, List.lookup_cons, List.lookup_nil, str_beq, insOf, not_true_eq_false, gok0]
    refine h.1 ?_
    try simp only [wp_rep, wp_meth, w_lenSo, w_tupT, w_tupL, List.length_map, wp_ok, wp_bad, wp_bind, wS_ok, wS_bad, wS_cons, wS_nil, wS_pass, wS_break, wS_cont, wS_never, wS_set, wS_expr, wS_ret, wS_retN, wS_if, wS_asg, wS_aug, wS_for, wp_lc, wp_m1, wp_m2, wp_mN, wp_aNil, wp_aCons, wp_mC, wp_var, wp_if2, wp_and2, wp_or2, wp_not, wp_chain2, isBl_bl, andK_p, orK_p, andV_p, orV_p, iteK_p, andK_t, andK_f, orK_t, orK_f, andV_t, andV_f, orV_t, orV_f, iteK_t, iteK_f, wp_tTru2, dTru_bl, dTru_lst, dTru_int, dTru_non, wp_mt, wp_get, wp_isi, wp_fld, wp_sl, wp_oNone, wp_oSome, wp_tBool, wp_tNot, wp_tAnd2, wp_tOr2, wp_tAll, wp_gSlot, wp_gsNil, wp_gsCons, wp_gTup, wp_gSub, wp_iAny, wp_iSeq, wp_iTup, wp_iStr, wp_iRange1, wp_iRange2, wp_iZip, wS_fld, wp_make, seqQ, rtQ, turnQ, List.getElem?_cons_zero, List.getElem?_cons_succ, List.set_cons_zero, List.set_cons_succ, wipeD, if_true, if_false, Bool.false_eq_true, Bool.true_eq_false, reduceIte, w_add, w_iadd, w_iaddS, w_addS, w_addL, w_addT, w_sub, w_mul, w_mod, w_fdiv, w_pow, w_neg, w_lt, w_le, w_gt, w_ge, w_eqI, w_neI, w_eqT, w_neT, w_isN, w_isnotN, w_isB, w_isNB, w_len, w_lenT, w_int, w_intB, w_abs, w_min, w_max, w_tup, w_lst, w_new, w_list, w_listN, w_ix, w_ixT, w_ixD, w_inT1, w_notinT1, w_inT2, w_notinT2, w_inT3, w_notinT3, w_inT4, w_notinT4, w_inT5, w_notinT5, w_inT6, w_notinT6, w_inT7, w_notinT7, w_inT8, w_notinT8, w_sl1, at_0, at_1, at_2, at_3, at_4, at_5, hasTy_list, hasTy_str, isNonD, flatD, sEq_T, List.all_cons, List.all_nil, List.any_cons, List.any_nil, Bool.and_true, Bool.true_and, Bool.or_false, Bool.or_true, Bool.true_or, Bool.false_or, Bool.not_true, Bool.not_false, List.length_cons, List.length_nil, Nat.zero_add, Nat.reduceAdd, line_eq, true_and, and_true, String.reduceBEq, Int.reduceBEq, decide_true, decide_false, Int.reduceLT, Int.reduceLE, beq_self_eq_true, Nat.reduceLeDiff, wS_raise, wp_xinit, wp_sets0, wp_sets1, wp_fs, wp_xf, wp_xis, hdQ, setO, List.map_cons, List.map_nil, tabF_cons, tabF_nil, lview, w_inU1, w_inU2, w_inU3, w_inU4, w_notinU1, w_notinU2, w_notinU3, w_notinU4, wp_lcN, and_self, or_true, true_or, or_false, false_or, not_true_eq_false, not_false_eq_true, ne_eq, reduceCtorEq, List.cons.injEq, Bool.and_false, Bool.false_and, Bool.and_self, Bool.or_self, List.mem_cons, List.not_mem_nil, isSub, ty_tup, ty_lst, ty_int, ty_bl, ty_str, ty_non, nb, Bool.and_eq_true, Bool.or_eq_true, decide_eq_true_eq, beq_iff_eq, Int.cast_ofNat_Int, List.lookup_cons, List.lookup_nil, str_beq, insOf, not_true_eq_false, gok0]
    exact fit_loop xs as _ _ h.2 k
theorem allowed_wp {b : Bool} {i : Int} {o : TO} (h : o.ok l b i) (k : Q (.bl true) s) : wp (f_allowed [o.d, .str (Str.ofString (pn b)), .int i, .str (tx l)] s) Q E := by
  refine (wp_fn (n := 4) (tot := 7) (m := m_allowed) rfl).mpr ?_
  show wS (m_allowed [some o.d, some (.str (Str.ofString (pn b))), some (.int i), some (.str (tx l)), none, none, none] s) _ _
  have hl : o.args.length ≤ 2 := by cases o <;> simp [TO.args]
  unfold m_allowed
  unfold TO.d
  try simp only [wp_rep, wp_meth, w_lenSo, w_tupT, w_tupL, List.length_map, wp_ok, wp_bad, wp_bind, wS_ok, wS_bad, wS_cons, wS_nil, wS_pass, wS_break, wS_cont, wS_never, wS_set, wS_expr, wS_ret, wS_retN, wS_if, wS_asg, wS_aug, wS_for, wp_lc, wp_m1, wp_m2, wp_mN, wp_aNil, wp_aCons, wp_mC, wp_var, wp_if2, wp_and2, wp_or2, wp_not, wp_chain2, isBl_bl, andK_p, orK_p, andV_p, orV_p, iteK_p, andK_t, andK_f, orK_t, orK_f, andV_t, andV_f, orV_t, orV_f, iteK_t, iteK_f, wp_tTru2, dTru_bl, dTru_lst, dTru_int, dTru_non, wp_mt, wp_get, wp_isi, wp_fld, wp_sl, wp_oNone, wp_oSome, wp_tBool, wp_tNot, wp_tAnd2, wp_tOr2, wp_tAll, wp_gSlot, wp_gsNil, wp_gsCons, wp_gTup, wp_gSub, wp_iAny, wp_iSeq, wp_iTup, wp_iStr, wp_iRange1, wp_iRange2, wp_iZip, wS_fld, wp_make, seqQ, rtQ, turnQ, List.getElem?_cons_zero, List.getElem?_cons_succ, List.set_cons_zero, List.set_cons_succ, wipeD, if_true, if_false, Bool.false_eq_true, Bool.true_eq_false, reduceIte, w_add, w_iadd, w_iaddS, w_addS, w_addL, w_addT, w_sub, w_mul, w_mod, w_fdiv, w_pow, w_neg, w_lt, w_le, w_gt, w_ge, w_eqI, w_neI, w_eqT, w_neT, w_isN, w_isnotN, w_isB, w_isNB, w_len, w_lenT, w_int, w_intB, w_abs, w_min, w_max, w_tup, w_lst, w_new, w_list, w_listN, w_ix, w_ixT, w_ixD, w_inT1, w_notinT1, w_inT2, w_notinT2, w_inT3, w_notinT3, w_inT4, w_notinT4, w_inT5, w_notinT5, w_inT6, w_notinT6, w_inT7, w_notinT7, w_inT8, w_notinT8, w_sl1, at_0, at_1, at_2, at_3, at_4, at_5, hasTy_list, hasTy_str, isNonD, flatD, sEq_T, List.all_cons, List.all_nil, List.any_cons, List.any_nil, Bool.and_true, Bool.true_and, Bool.or_false, Bool.or_true, Bool.true_or, Bool.false_or, Bool.not_true, Bool.not_false, List.length_cons, List.length_nil, Nat.zero_add, Nat.reduceAdd, line_eq, true_and, and_true, String.reduceBEq, Int.reduceBEq, decide_true, decide_false, Int.reduceLT, Int.reduceLE, beq_self_eq_true, Nat.reduceLeDiff, wS_raise, wp_xinit, wp_sets0, wp_sets1, wp_fs, wp_xf, wp_xis, hdQ, setO, List.map_cons, List.map_nil, tabF_cons, tabF_nil, lview, w_inU1, w_inU2, w_inU3, w_inU4, w_notinU1, w_notinU2, w_notinU3, w_notinU4, wp_lcN, and_self, or_true, true_or, or_false, false_or, not_true_eq_false, not_false_eq_true, ne_eq, reduceCtorEq, List.cons.injEq, Bool.and_false, Bool.false_and, Bool.and_self, Bool.or_self, List.mem_cons, List.not_mem_nil, isSub, ty_tup, ty_lst, ty_int, ty_bl, ty_str, ty_non, nb, Bool.and_eq_true, Bool.or_eq_true, decide_eq_true_eq, beq_iff_eq, Int.cast_ofNat_Int, List.lookup_cons, List.lookup_nil, str_beq, insOf, not_true_eq_false, gok0]
  rw [if_neg (by omega)]
  refine shape_wp h fun z hz1 hz2 => ?_
  try simp only [wp_rep, wp_meth, w_lenSo, w_tupT, w_tupL, List.length_map, wp_ok, wp_bad, wp_bind, wS_ok, wS_bad, wS_cons, wS_nil, wS_pass, wS_break, wS_cont, wS_never, wS_set, wS_expr, wS_ret, wS_retN, wS_if, wS_asg, wS_aug, wS_for, wp_lc, wp_m1, wp_m2, wp_mN, wp_aNil, wp_aCons, wp_mC, wp_var, wp_if2, wp_and2, wp_or2, wp_not, wp_chain2, isBl_bl, andK_p, orK_p, andV_p, orV_p, iteK_p, andK_t, andK_f, orK_t, orK_f, andV_t, andV_f, orV_t, orV_f, iteK_t, iteK_f, wp_tTru2, dTru_bl, dTru_lst, dTru_int, dTru_non, wp_mt, wp_get, wp_isi, wp_fld, wp_sl, wp_oNone, wp_oSome, wp_tBool, wp_tNot, wp_tAnd2, wp_tOr2, wp_tAll, wp_gSlot, wp_gsNil, wp_gsCons, wp_gTup, wp_gSub, wp_iAny, wp_iSeq, wp_iTup, wp_iStr, wp_iRange1, wp_iRange2, wp_iZip, wS_fld, wp_make, seqQ, rtQ, turnQ, List.getElem?_cons_zero, List.getElem?_cons_succ, List.set_cons_zero, List.set_cons_succ, wipeD, if_true, if_false, Bool.false_eq_true, Bool.true_eq_false, reduceIte, w_add, w_iadd, w_iaddS, w_addS, w_addL, w_addT, w_sub, w_mul, w_mod, w_fdiv, w_pow, w_neg, w_lt, w_le, w_gt, w_ge, w_eqI, w_neI, w_eqT, w_neT, w_isN, w_isnotN, w_isB, w_isNB, w_len, w_lenT, w_int, w_intB, w_abs, w_min, w_max, w_tup, w_lst, w_new, w_list, w_listN, w_ix, w_ixT, w_ixD, w_inT1, w_notinT1, w_inT2, w_notinT2, w_inT3, w_notinT3, w_inT4, w_notinT4, w_inT5, w_notinT5, w_inT6, w_notinT6, w_inT7, w_notinT7, w_inT8, w_notinT8, w_sl1, at_0, at_1, at_2, at_3, at_4, at_5, hasTy_list, hasTy_str, isNonD, flatD, sEq_T, List.all_cons, List.all_nil, List.any_cons, List.any_nil, Bool.and_true, Bool.true_and, Bool.or_false, Bool.or_true, Bool.true_or, Bool.false_or, Bool.not_true, Bool.not_false, List.length_cons, List.length_nil, Nat.zero_add, Nat.reduceAdd, line_eq, true_and, and_true, String.reduceBEq, Int.reduceBEq, decide_true, decide_false, Int.reduceLT, Int.reduceLE, beq_self_eq_true, Nat.reduceLeDiff, wS_raise, wp_xinit, wp_sets0, wp_sets1, wp_fs, wp_xf, wp_xis, hdQ, setO, List.map_cons, List.map_nil, tabF_cons, tabF_nil, lview, w_inU1, w_inU2, w_inU3, w_inU4, w_notinU1, w_notinU2, w_notinU3, w_notinU4, wp_lcN, and_self, or_true, true_or, or_false, false_or, not_true_eq_false, not_false_eq_true, ne_eq, reduceCtorEq, List.cons.injEq, Bool.and_false, Bool.false_and, Bool.and_self, Bool.or_self, List.mem_cons, List.not_mem_nil, isSub, ty_tup, ty_lst, ty_int, ty_bl, ty_str, ty_non, nb, Bool.and_eq_true, Bool.or_eq_true, decide_eq_true_eq, beq_iff_eq, Int.cast_ofNat_Int, List.lookup_cons, List.lookup_nil, str_beq, insOf, not_true_eq_false, gok0]
  have hz3 := args_len o
  refine ⟨by omega, ?_⟩
  rw [if_neg (by omega)]
  simp only [fview]
  rw [hz1]
  exact fit_loop _ _ _ _ (fit_ok h) fun _ _ => by try simp only [wp_rep, wp_meth, w_lenSo, w_tupT, w_tupL, List.length_map, wp_ok, wp_bad, wp_bind, wS_ok, wS_bad, wS_cons, wS_nil, wS_pass, wS_break, wS_cont, wS_never, wS_set, wS_expr, wS_ret, wS_retN, wS_if, wS_asg, wS_aug, wS_for, wp_lc, wp_m1, wp_m2, wp_mN, wp_aNil, wp_aCons, wp_mC, wp_var, wp_if2, wp_and2, wp_or2, wp_not, wp_chain2, isBl_bl, andK_p, orK_p, andV_p, orV_p, iteK_p, andK_t, andK_f, orK_t, orK_f, andV_t, andV_f, orV_t, orV_f, iteK_t, iteK_f, wp_tTru2, dTru_bl, dTru_lst, dTru_int, dTru_non, wp_mt, wp_get, wp_isi, wp_fld, wp_sl, wp_oNone, wp_oSome, wp_tBool, wp_tNot, wp_tAnd2, wp_tOr2, wp_tAll, wp_gSlot, wp_gsNil, wp_gsCons, wp_gTup, wp_gSub, wp_iAny, wp_iSeq, wp_iTup, wp_iStr, wp_iRange1, wp_iRange2, wp_iZip, wS_fld, wp_make, seqQ, rtQ, turnQ, List.getElem?_cons_zero, List.getElem?_cons_succ, List.set_cons_zero, List.set_cons_succ, wipeD, if_true, if_false, Bool.false_eq_true, Bool.true_eq_false, reduceIte, w_add, w_iadd, w_iaddS, w_addS, w_addL, w_addT, w_sub, w_mul, w_mod, w_fdiv, w_pow, w_neg, w_lt, w_le, w_gt, w_ge, w_eqI, w_neI, w_eqT, w_neT, w_isN, w_isnotN, w_isB, w_isNB, w_len, w_lenT, w_int, w_intB, w_abs, w_min, w_max, w_tup, w_lst, w_new, w_list, w_listN, w_ix, w_ixT, w_ixD, w_inT1, w_notinT1, w_inT2, w_notinT2, w_inT3, w_notinT3, w_inT4, w_notinT4, w_inT5, w_notinT5, w_inT6, w_notinT6, w_inT7, w_notinT7, w_inT8, w_notinT8, w_sl1, at_0, at_1, at_2, at_3, at_4, at_5, hasTy_list, hasTy_str, isNonD, flatD, sEq_T, List.all_cons, List.all_nil, List.any_cons, List.any_nil, Bool.and_true, Bool.true_and, Bool.or_false, Bool.or_true, Bool.true_or, Bool.false_or, Bool.not_true, Bool.not_false, List.length_cons, List.length_nil, Nat.zero_add, Nat.reduceAdd, line_eq, true_and, and_true, String.reduceBEq, Int.reduceBEq, decide_true, decide_false, Int.reduceLT, Int.reduceLE, beq_self_eq_true, Nat.reduceLeDiff, wS_raise, wp_xinit, wp_sets0, wp_sets1, wp_fs, wp_xf, wp_xis, hdQ, setO, List.map_cons, List.map_nil, tabF_cons, tabF_nil, lview, w_inU1, w_inU2, w_inU3, w_inU4, w_notinU1, w_notinU2, w_notinU3, w_notinU4, wp_lcN, and_self, or_true, true_or, or_false, false_or, not_true_eq_false, not_false_eq_true, ne_eq, reduceCtorEq, List.cons.injEq, Bool.and_false, Bool.false_and, Bool.and_self, Bool.or_self, List.mem_cons, List.not_mem_nil, isSub, ty_tup, ty_lst, ty_int, ty_bl, ty_str, ty_non, nb, Bool.and_eq_true, Bool.or_eq_true, decide_eq_true_eq, beq_iff_eq, Int.cast_ofNat_Int, List.lookup_cons, List.lookup_nil, str_beq, insOf, not_true_eq_false, gok0]; exact k
theorem check_wp {os : List TO} {b : Bool} {i : Nat} (hs : s[i]? = some (.lst (os.map TO.d))) (hg : Good l b os) (k : Q .non s) : wp (f_check_orders [.str (Str.ofString (pn b)), .ref i, .str (tx l)] s) Q E := by
  refine (wp_fn (n := 3) (tot := 4) (m := m_check_orders) rfl).mpr ?_
  show wS (m_check_orders [some (.str (Str.ofString (pn b))), some (.ref i), some (.str (tx l)), none] s) _ _
  have hlen : (os.map TO.d).length = os.length := List.length_map _
  have h33 := hg.len
  unfold m_check_orders
  rw [wS_for, wp_iRange1, wp_mN, wp_aCons, wp_var]
  simp only [List.getElem?_cons_zero, List.getElem?_cons_succ, wp_aNil, w_lenR hs, hlen]
  refine ⟨⟨by omega, by omega⟩, ?_⟩
  let I : List D → Rho → S → Prop := fun xs ρ s' => ∃ v3 : Option D, ρ = [some (.str (Str.ofString (pn b))), some (.ref i), some (.str (tx l)), v3] ∧ s' = s ∧ ∀ x ∈ xs, ∃ j : Nat, x = .int j ∧ j < os.length
  refine wS_forN I ?_ ?_ _ _ _ ⟨none, rfl, rfl, fun x hx => ?_⟩
  · rintro ρ s' ⟨v3, rfl, rfl, _⟩
    exact k
  · rintro x xs ρ s' ⟨v3, rfl, rfl, hx⟩
    obtain ⟨j, rfl, hj⟩ := hx x List.mem_cons_self
    have ho : os[j]? = some os[j] := List.getElem?_eq_getElem hj
    generalize os[j] = o at ho
    have hok := hg.ok j o ho
    try simp only [wp_rep, wp_meth, w_lenSo, w_tupT, w_tupL, List.length_map, wp_ok, wp_bad, wp_bind, wS_ok, wS_bad, wS_cons, wS_nil, wS_pass, wS_break, wS_cont, wS_never, wS_set, wS_expr, wS_ret, wS_retN, wS_if, wS_asg, wS_aug, wS_for, wp_lc, wp_m1, wp_m2, wp_mN, wp_aNil, wp_aCons, wp_mC, wp_var, wp_if2, wp_and2, wp_or2, wp_not, wp_chain2, isBl_bl, andK_p, orK_p, andV_p, orV_p, iteK_p, andK_t, andK_f, orK_t, orK_f, andV_t, andV_f, orV_t, orV_f, iteK_t, iteK_f, wp_tTru2, dTru_bl, dTru_lst, dTru_int, dTru_non, wp_mt, wp_get, wp_isi, wp_fld, wp_sl, wp_oNone, wp_oSome, wp_tBool, wp_tNot, wp_tAnd2, wp_tOr2, wp_tAll, wp_gSlot, wp_gsNil, wp_gsCons, wp_gTup, wp_gSub, wp_iAny, wp_iSeq, wp_iTup, wp_iStr, wp_iRange1, wp_iRange2, wp_iZip, wS_fld, wp_make, seqQ, rtQ, turnQ, List.getElem?_cons_zero, List.getElem?_cons_succ, List.set_cons_zero, List.set_cons_succ, wipeD, if_true, if_false, Bool.false_eq_true, Bool.true_eq_false, reduceIte, w_add, w_iadd, w_iaddS, w_addS, w_addL, w_addT, w_sub, w_mul, w_mod, w_fdiv, w_pow, w_neg, w_lt, w_le, w_gt, w_ge, w_eqI, w_neI, w_eqT, w_neT, w_isN, w_isnotN, w_isB, w_isNB, w_len, w_lenT, w_int, w_intB, w_abs, w_min, w_max, w_tup, w_lst, w_new, w_list, w_listN, w_ix, w_ixT, w_ixD, w_inT1, w_notinT1, w_inT2, w_notinT2, w_inT3, w_notinT3, w_inT4, w_notinT4, w_inT5, w_notinT5, w_inT6, w_notinT6, w_inT7, w_notinT7, w_inT8, w_notinT8, w_sl1, at_0, at_1, at_2, at_3, at_4, at_5, hasTy_list, hasTy_str, isNonD, flatD, sEq_T, List.all_cons, List.all_nil, List.any_cons, List.any_nil, Bool.and_true, Bool.true_and, Bool.or_false, Bool.or_true, Bool.true_or, Bool.false_or, Bool.not_true, Bool.not_false, List.length_cons, List.length_nil, Nat.zero_add, Nat.reduceAdd, line_eq, true_and, and_true, String.reduceBEq, Int.reduceBEq, decide_true, decide_false, Int.reduceLT, Int.reduceLE, beq_self_eq_true, Nat.reduceLeDiff, wS_raise, wp_xinit, wp_sets0, wp_sets1, wp_fs, wp_xf, wp_xis, hdQ, setO, List.map_cons, List.map_nil, tabF_cons, tabF_nil, lview, w_inU1, w_inU2, w_inU3, w_inU4, w_notinU1, w_notinU2, w_notinU3, w_notinU4, wp_lcN, and_self, or_true, true_or, or_false, false_or, not_true_eq_false, not_false_eq_true, ne_eq, reduceCtorEq, List.cons.injEq, Bool.and_false, Bool.false_and, Bool.and_self, Bool.or_self, List.mem_cons, List.not_mem_nil, isSub, ty_tup, ty_lst, ty_int, ty_bl, ty_str, ty_non, nb, Bool.and_eq_true, Bool.or_eq_true, decide_eq_true_eq, beq_iff_eq, Int.cast_ofNat_Int, List.lookup_cons, List.lookup_nil, str_beq, insOf, not_true_eq_false, gok0]
    simp only [w_ixR hs, w_lenR hs, hlen, ord_ix ho]
    try simp only [wp_rep, wp_meth, w_lenSo, w_tupT, w_tupL, List.length_map, wp_ok, wp_bad, wp_bind, wS_ok, wS_bad, wS_cons, wS_nil, wS_pass, wS_break, wS_cont, wS_never, wS_set, wS_expr, wS_ret, wS_retN, wS_if, wS_asg, wS_aug, wS_for, wp_lc, wp_m1, wp_m2, wp_mN, wp_aNil, wp_aCons, wp_mC, wp_var, wp_if2, wp_and2, wp_or2, wp_not, wp_chain2, isBl_bl, andK_p, orK_p, andV_p, orV_p, iteK_p, andK_t, andK_f, orK_t, orK_f, andV_t, andV_f, orV_t, orV_f, iteK_t, iteK_f, wp_tTru2, dTru_bl, dTru_lst, dTru_int, dTru_non, wp_mt, wp_get, wp_isi, wp_fld, wp_sl, wp_oNone, wp_oSome, wp_tBool, wp_tNot, wp_tAnd2, wp_tOr2, wp_tAll, wp_gSlot, wp_gsNil, wp_gsCons, wp_gTup, wp_gSub, wp_iAny, wp_iSeq, wp_iTup, wp_iStr, wp_iRange1, wp_iRange2, wp_iZip, wS_fld, wp_make, seqQ, rtQ, turnQ, List.getElem?_cons_zero, List.getElem?_cons_succ, List.set_cons_zero, List.set_cons_succ, wipeD, if_true, if_false, Bool.false_eq_true, Bool.true_eq_false, reduceIte, w_add, w_iadd, w_iaddS, w_addS, w_addL, w_addT, w_sub, w_mul, w_mod, w_fdiv, w_pow, w_neg, w_lt, w_le, w_gt, w_ge, w_eqI, w_neI, w_eqT, w_neT, w_isN, w_isnotN, w_isB, w_isNB, w_len, w_lenT, w_int, w_intB, w_abs, w_min, w_max, w_tup, w_lst, w_new, w_list, w_listN, w_ix, w_ixT, w_ixD, w_inT1, w_notinT1, w_inT2, w_notinT2, w_inT3, w_notinT3, w_inT4, w_notinT4, w_inT5, w_notinT5, w_inT6, w_notinT6, w_inT7, w_notinT7, w_inT8, w_notinT8, w_sl1, at_0, at_1, at_2, at_3, at_4, at_5, hasTy_list, hasTy_str, isNonD, flatD, sEq_T, List.all_cons, List.all_nil, List.any_cons, List.any_nil, Bool.and_true, Bool.true_and, Bool.or_false, Bool.or_true, Bool.true_or, Bool.false_or, Bool.not_true, Bool.not_false, List.length_cons, List.length_nil, Nat.zero_add, Nat.reduceAdd, line_eq, true_and, and_true, String.reduceBEq, Int.reduceBEq, decide_true, decide_false, Int.reduceLT, Int.reduceLE, beq_self_eq_true, Nat.reduceLeDiff, wS_raise, wp_xinit, wp_sets0, wp_sets1, wp_fs, wp_xf, wp_xis, hdQ, setO, List.map_cons, List.map_nil, tabF_cons, tabF_nil, lview, w_inU1, w_inU2, w_inU3, w_inU4, w_notinU1, w_notinU2, w_notinU3, w_notinU4, wp_lcN, and_self, or_true, true_or, or_false, false_or, not_true_eq_false, not_false_eq_true, ne_eq, reduceCtorEq, List.cons.injEq, Bool.and_false, Bool.false_and, Bool.and_self, Bool.or_self, List.mem_cons, List.not_mem_nil, isSub, ty_tup, ty_lst, ty_int, ty_bl, ty_str, ty_non, nb, Bool.and_eq_true, Bool.or_eq_true, decide_eq_true_eq, beq_iff_eq, Int.cast_ofNat_Int, List.lookup_cons, List.lookup_nil, str_beq, insOf, not_true_eq_false, gok0]
    refine allowed_wp hok ?_
    try simp only [wp_rep, wp_meth, w_lenSo, w_tupT, w_tupL, List.length_map, wp_ok, wp_bad, wp_bind, wS_ok, wS_bad, wS_cons, wS_nil, wS_pass, wS_break, wS_cont, wS_never, wS_set, wS_expr, wS_ret, wS_retN, wS_if, wS_asg, wS_aug, wS_for, wp_lc, wp_m1, wp_m2, wp_mN, wp_aNil, wp_aCons, wp_mC, wp_var, wp_if2, wp_and2, wp_or2, wp_not, wp_chain2, isBl_bl, andK_p, orK_p, andV_p, orV_p, iteK_p, andK_t, andK_f, orK_t, orK_f, andV_t, andV_f, orV_t, orV_f, iteK_t, iteK_f, wp_tTru2, dTru_bl, dTru_lst, dTru_int, dTru_non, wp_mt, wp_get, wp_isi, wp_fld, wp_sl, wp_oNone, wp_oSome, wp_tBool, wp_tNot, wp_tAnd2, wp_tOr2, wp_tAll, wp_gSlot, wp_gsNil, wp_gsCons, wp_gTup, wp_gSub, wp_iAny, wp_iSeq, wp_iTup, wp_iStr, wp_iRange1, wp_iRange2, wp_iZip, wS_fld, wp_make, seqQ, rtQ, turnQ, List.getElem?_cons_zero, List.getElem?_cons_succ, List.set_cons_zero, List.set_cons_succ, wipeD, if_true, if_false, Bool.false_eq_true, Bool.true_eq_false, reduceIte, w_add, w_iadd, w_iaddS, w_addS, w_addL, w_addT, w_sub, w_mul, w_mod, w_fdiv, w_pow, w_neg, w_lt, w_le, w_gt, w_ge, w_eqI, w_neI, w_eqT, w_neT, w_isN, w_isnotN, w_isB, w_isNB, w_len, w_lenT, w_int, w_intB, w_abs, w_min, w_max, w_tup, w_lst, w_new, w_list, w_listN, w_ix, w_ixT, w_ixD, w_inT1, w_notinT1, w_inT2, w_notinT2, w_inT3, w_notinT3, w_inT4, w_notinT4, w_inT5, w_notinT5, w_inT6, w_notinT6, w_inT7, w_notinT7, w_inT8, w_notinT8, w_sl1, at_0, at_1, at_2, at_3, at_4, at_5, hasTy_list, hasTy_str, isNonD, flatD, sEq_T, List.all_cons, List.all_nil, List.any_cons, List.any_nil, Bool.and_true, Bool.true_and, Bool.or_false, Bool.or_true, Bool.true_or, Bool.false_or, Bool.not_true, Bool.not_false, List.length_cons, List.length_nil, Nat.zero_add, Nat.reduceAdd, line_eq, true_and, and_true, String.reduceBEq, Int.reduceBEq, decide_true, decide_false, Int.reduceLT, Int.reduceLE, beq_self_eq_true, Nat.reduceLeDiff, wS_raise, wp_xinit, wp_sets0, wp_sets1, wp_fs, wp_xf, wp_xis, hdQ, setO, List.map_cons, List.map_nil, tabF_cons, tabF_nil, lview, w_inU1, w_inU2, w_inU3, w_inU4, w_notinU1, w_notinU2, w_notinU3, w_notinU4, wp_lcN, and_self, or_true, true_or, or_false, false_or, not_true_eq_false, not_false_eq_true, ne_eq, reduceCtorEq, List.cons.injEq, Bool.and_false, Bool.false_and, Bool.and_self, Bool.or_self, List.mem_cons, List.not_mem_nil, isSub, ty_tup, ty_lst, ty_int, ty_bl, ty_str, ty_non, nb, Bool.and_eq_true, Bool.or_eq_true, decide_eq_true_eq, beq_iff_eq, Int.cast_ofNat_Int, List.lookup_cons, List.lookup_nil, str_beq, insOf, not_true_eq_false, gok0]
    exact ⟨_, rfl, rfl, fun y hy => hx y (List.mem_cons_of_mem _ hy)⟩
  · obtain ⟨j, rfl, hj⟩ := rng_mem hx
    exact ⟨j, by congr 1; omega, by omega⟩
theorem frz_to {s : S} {n k : Nat} (o : TO) : frzD s n (k + 2) o.d = some o.d := by cases o <;> rfl
theorem frz_tos {s : S} {n k : Nat} : ∀ os : List TO, allD (frzD s n (k + 2)) (os.map TO.d) = some (os.map TO.d)
  | [] => rfl
  | o :: os => by
    show (match frzD s n (k + 2) o.d, allD (frzD s n (k + 2)) (os.map TO.d) with | some y, some ys => some (y :: ys) | _, _ => none) = _
    rw [frz_to o, frz_tos os]
    rfl
theorem lt_tos {n : Nat} : ∀ os : List TO, ltDs n (os.map TO.d) = true
  | [] => rfl
  | o :: os => by
    show (ltD n o.d && ltDs n (os.map TO.d)) = true
    rw [lt_tos os]
    cases o <;> rfl
def out_ : O := .lst [.ref 1, .ref 2]
theorem lt_deck {n : Nat} {L : List Int} : ltDs n (L.map D.int) = true := by
  induction L with
  | nil => rfl
  | cons x xs ih =>
    show (ltD n (.int x) && ltDs n (xs.map .int)) = true
    rw [ih]
    rfl
theorem low_tos {L : List Int} {B F : List TO} : Low 4 (.lst (L.map .int)) (.lst (B.map TO.d)) (.lst (F.map TO.d)) out_ := ⟨lt_deck, lt_tos B, lt_tos F, rfl⟩
theorem make_wp {v0 v1 v2 v4 v5 v7 v8 v9 v10 : Option D} {body fin : List TO} (hl : l ∈ letrs) (hb : Good l true body) (hf : Good l false fin) (hA : ltO 4 A = true) (k : Q (rcD l body fin) [A, .lst (body.map TO.d), .lst (fin.map TO.d), out_]) :
    wp (mFz (mMake "TextRecipe" f_TextRecipe_init (aCons (mVar 3) (aCons (m2 dIx (mVar 6) (mC (.int 0))) (aCons (m2 dIx (mVar 6) (mC (.int 1))) aNil)))) [v0, v1, v2, some (.str (tx l)), v4, v5, some (.ref 3), v7, v8, v9, v10] [A, .lst (body.map TO.d), .lst (fin.map TO.d), out_]) Q E := by
  have h31 := hb.len
  have g31 := hf.len
  refine wp_mFz ?_
  unfold out_
  try simp only [wp_rep, wp_meth, w_lenSo, w_tupT, w_tupL, List.length_map, wp_ok, wp_bad, wp_bind, wS_ok, wS_bad, wS_cons, wS_nil, wS_pass, wS_break, wS_cont, wS_never, wS_set, wS_expr, wS_ret, wS_retN, wS_if, wS_asg, wS_aug, wS_for, wp_lc, wp_m1, wp_m2, wp_mN, wp_aNil, wp_aCons, wp_mC, wp_var, wp_if2, wp_and2, wp_or2, wp_not, wp_chain2, isBl_bl, andK_p, orK_p, andV_p, orV_p, iteK_p, andK_t, andK_f, orK_t, orK_f, andV_t, andV_f, orV_t, orV_f, iteK_t, iteK_f, wp_tTru2, dTru_bl, dTru_lst, dTru_int, dTru_non, wp_mt, wp_get, wp_isi, wp_fld, wp_sl, wp_oNone, wp_oSome, wp_tBool, wp_tNot, wp_tAnd2, wp_tOr2, wp_tAll, wp_gSlot, wp_gsNil, wp_gsCons, wp_gTup, wp_gSub, wp_iAny, wp_iSeq, wp_iTup, wp_iStr, wp_iRange1, wp_iRange2, wp_iZip, wS_fld, wp_make, seqQ, rtQ, turnQ, List.getElem?_cons_zero, List.getElem?_cons_succ, List.set_cons_zero, List.set_cons_succ, wipeD, if_true, if_false, Bool.false_eq_true, Bool.true_eq_false, reduceIte, w_add, w_iadd, w_iaddS, w_addS, w_addL, w_addT, w_sub, w_mul, w_mod, w_fdiv, w_pow, w_neg, w_lt, w_le, w_gt, w_ge, w_eqI, w_neI, w_eqT, w_neT, w_isN, w_isnotN, w_isB, w_isNB, w_len, w_lenT, w_int, w_intB, w_abs, w_min, w_max, w_tup, w_lst, w_new, w_list, w_listN, w_ix, w_ixT, w_ixD, w_inT1, w_notinT1, w_inT2, w_notinT2, w_inT3, w_notinT3, w_inT4, w_notinT4, w_inT5, w_notinT5, w_inT6, w_notinT6, w_inT7, w_notinT7, w_inT8, w_notinT8, w_sl1, at_0, at_1, at_2, at_3, at_4, at_5, hasTy_list, hasTy_str, isNonD, flatD, sEq_T, List.all_cons, List.all_nil, List.any_cons, List.any_nil, Bool.and_true, Bool.true_and, Bool.or_false, Bool.or_true, Bool.true_or, Bool.false_or, Bool.not_true, Bool.not_false, List.length_cons, List.length_nil, Nat.zero_add, Nat.reduceAdd, line_eq, true_and, and_true, String.reduceBEq, Int.reduceBEq, decide_true, decide_false, Int.reduceLT, Int.reduceLE, beq_self_eq_true, Nat.reduceLeDiff, wS_raise, wp_xinit, wp_sets0, wp_sets1, wp_fs, wp_xf, wp_xis, hdQ, setO, List.map_cons, List.map_nil, tabF_cons, tabF_nil, lview, w_inU1, w_inU2, w_inU3, w_inU4, w_notinU1, w_notinU2, w_notinU3, w_notinU4, wp_lcN, and_self, or_true, true_or, or_false, false_or, not_true_eq_false, not_false_eq_true, ne_eq, reduceCtorEq, List.cons.injEq, Bool.and_false, Bool.false_and, Bool.and_self, Bool.or_self, List.mem_cons, List.not_mem_nil, isSub, ty_tup, ty_lst, ty_int, ty_bl, ty_str, ty_non, nb, Bool.and_eq_true, Bool.or_eq_true, decide_eq_true_eq, beq_iff_eq, Int.cast_ofNat_Int, List.lookup_cons, List.lookup_nil, str_beq, insOf, not_true_eq_false, gok0]
  rw [w_ixR (n := 3) (xs := [.ref 1, .ref 2]) rfl, at_0]
  simp only []
  rw [w_ixR (n := 3) (xs := [.ref 1, .ref 2]) rfl, at_1]
  show wp (f_TextRecipe_init [.ref 4, .str (tx l), .ref 1, .ref 2] [A, .lst (body.map TO.d), .lst (fin.map TO.d), out_, .ins (Str.ofString "TextRecipe") []]) _ _
  refine (wp_fn (n := 4) (tot := 4) (m := m_TextRecipe_init) rfl).mpr ?_
  show wS (m_TextRecipe_init [some (.ref 4), some (.str (tx l)), some (.ref 1), some (.ref 2)] _) _ _
  unfold m_TextRecipe_init c_MOST_ORDERS d_MOST_ORDERS
  try simp only [wp_rep, wp_meth, w_lenSo, w_tupT, w_tupL, List.length_map, wp_ok, wp_bad, wp_bind, wS_ok, wS_bad, wS_cons, wS_nil, wS_pass, wS_break, wS_cont, wS_never, wS_set, wS_expr, wS_ret, wS_retN, wS_if, wS_asg, wS_aug, wS_for, wp_lc, wp_m1, wp_m2, wp_mN, wp_aNil, wp_aCons, wp_mC, wp_var, wp_if2, wp_and2, wp_or2, wp_not, wp_chain2, isBl_bl, andK_p, orK_p, andV_p, orV_p, iteK_p, andK_t, andK_f, orK_t, orK_f, andV_t, andV_f, orV_t, orV_f, iteK_t, iteK_f, wp_tTru2, dTru_bl, dTru_lst, dTru_int, dTru_non, wp_mt, wp_get, wp_isi, wp_fld, wp_sl, wp_oNone, wp_oSome, wp_tBool, wp_tNot, wp_tAnd2, wp_tOr2, wp_tAll, wp_gSlot, wp_gsNil, wp_gsCons, wp_gTup, wp_gSub, wp_iAny, wp_iSeq, wp_iTup, wp_iStr, wp_iRange1, wp_iRange2, wp_iZip, wS_fld, wp_make, seqQ, rtQ, turnQ, List.getElem?_cons_zero, List.getElem?_cons_succ, List.set_cons_zero, List.set_cons_succ, wipeD, if_true, if_false, Bool.false_eq_true, Bool.true_eq_false, reduceIte, w_add, w_iadd, w_iaddS, w_addS, w_addL, w_addT, w_sub, w_mul, w_mod, w_fdiv, w_pow, w_neg, w_lt, w_le, w_gt, w_ge, w_eqI, w_neI, w_eqT, w_neT, w_isN, w_isnotN, w_isB, w_isNB, w_len, w_lenT, w_int, w_intB, w_abs, w_min, w_max, w_tup, w_lst, w_new, w_list, w_listN, w_ix, w_ixT, w_ixD, w_inT1, w_notinT1, w_inT2, w_notinT2, w_inT3, w_notinT3, w_inT4, w_notinT4, w_inT5, w_notinT5, w_inT6, w_notinT6, w_inT7, w_notinT7, w_inT8, w_notinT8, w_sl1, at_0, at_1, at_2, at_3, at_4, at_5, hasTy_list, hasTy_str, isNonD, flatD, sEq_T, List.all_cons, List.all_nil, List.any_cons, List.any_nil, Bool.and_true, Bool.true_and, Bool.or_false, Bool.or_true, Bool.true_or, Bool.false_or, Bool.not_true, Bool.not_false, List.length_cons, List.length_nil, Nat.zero_add, Nat.reduceAdd, line_eq, true_and, and_true, String.reduceBEq, Int.reduceBEq, decide_true, decide_false, Int.reduceLT, Int.reduceLE, beq_self_eq_true, Nat.reduceLeDiff, wS_raise, wp_xinit, wp_sets0, wp_sets1, wp_fs, wp_xf, wp_xis, hdQ, setO, List.map_cons, List.map_nil, tabF_cons, tabF_nil, lview, w_inU1, w_inU2, w_inU3, w_inU4, w_notinU1, w_notinU2, w_notinU3, w_notinU4, wp_lcN, and_self, or_true, true_or, or_false, false_or, not_true_eq_false, not_false_eq_true, ne_eq, reduceCtorEq, List.cons.injEq, Bool.and_false, Bool.false_and, Bool.and_self, Bool.or_self, List.mem_cons, List.not_mem_nil, isSub, ty_tup, ty_lst, ty_int, ty_bl, ty_str, ty_non, nb, Bool.and_eq_true, Bool.or_eq_true, decide_eq_true_eq, beq_iff_eq, Int.cast_ofNat_Int, List.lookup_cons, List.lookup_nil, str_beq, insOf, not_true_eq_false, gok0]
  rw [w_lenR (n := 1) (xs := body.map TO.d) rfl, w_lenR (n := 2) (xs := fin.map TO.d) rfl]
  try simp only [wp_rep, wp_meth, w_lenSo, w_tupT, w_tupL, List.length_map, wp_ok, wp_bad, wp_bind, wS_ok, wS_bad, wS_cons, wS_nil, wS_pass, wS_break, wS_cont, wS_never, wS_set, wS_expr, wS_ret, wS_retN, wS_if, wS_asg, wS_aug, wS_for, wp_lc, wp_m1, wp_m2, wp_mN, wp_aNil, wp_aCons, wp_mC, wp_var, wp_if2, wp_and2, wp_or2, wp_not, wp_chain2, isBl_bl, andK_p, orK_p, andV_p, orV_p, iteK_p, andK_t, andK_f, orK_t, orK_f, andV_t, andV_f, orV_t, orV_f, iteK_t, iteK_f, wp_tTru2, dTru_bl, dTru_lst, dTru_int, dTru_non, wp_mt, wp_get, wp_isi, wp_fld, wp_sl, wp_oNone, wp_oSome, wp_tBool, wp_tNot, wp_tAnd2, wp_tOr2, wp_tAll, wp_gSlot, wp_gsNil, wp_gsCons, wp_gTup, wp_gSub, wp_iAny, wp_iSeq, wp_iTup, wp_iStr, wp_iRange1, wp_iRange2, wp_iZip, wS_fld, wp_make, seqQ, rtQ, turnQ, List.getElem?_cons_zero, List.getElem?_cons_succ, List.set_cons_zero, List.set_cons_succ, wipeD, if_true, if_false, Bool.false_eq_true, Bool.true_eq_false, reduceIte, w_add, w_iadd, w_iaddS, w_addS, w_addL, w_addT, w_sub, w_mul, w_mod, w_fdiv, w_pow, w_neg, w_lt, w_le, w_gt, w_ge, w_eqI, w_neI, w_eqT, w_neT, w_isN, w_isnotN, w_isB, w_isNB, w_len, w_lenT, w_int, w_intB, w_abs, w_min, w_max, w_tup, w_lst, w_new, w_list, w_listN, w_ix, w_ixT, w_ixD, w_inT1, w_notinT1, w_inT2, w_notinT2, w_inT3, w_notinT3, w_inT4, w_notinT4, w_inT5, w_notinT5, w_inT6, w_notinT6, w_inT7, w_notinT7, w_inT8, w_notinT8, w_sl1, at_0, at_1, at_2, at_3, at_4, at_5, hasTy_list, hasTy_str, isNonD, flatD, sEq_T, List.all_cons, List.all_nil, List.any_cons, List.any_nil, Bool.and_true, Bool.true_and, Bool.or_false, Bool.or_true, Bool.true_or, Bool.false_or, Bool.not_true, Bool.not_false, List.length_cons, List.length_nil, Nat.zero_add, Nat.reduceAdd, line_eq, true_and, and_true, String.reduceBEq, Int.reduceBEq, decide_true, decide_false, Int.reduceLT, Int.reduceLE, beq_self_eq_true, Nat.reduceLeDiff, wS_raise, wp_xinit, wp_sets0, wp_sets1, wp_fs, wp_xf, wp_xis, hdQ, setO, List.map_cons, List.map_nil, tabF_cons, tabF_nil, lview, w_inU1, w_inU2, w_inU3, w_inU4, w_notinU1, w_notinU2, w_notinU3, w_notinU4, wp_lcN, and_self, or_true, true_or, or_false, false_or, not_true_eq_false, not_false_eq_true, ne_eq, reduceCtorEq, List.cons.injEq, Bool.and_false, Bool.false_and, Bool.and_self, Bool.or_self, List.mem_cons, List.not_mem_nil, isSub, ty_tup, ty_lst, ty_int, ty_bl, ty_str, ty_non, nb, Bool.and_eq_true, Bool.or_eq_true, decide_eq_true_eq, beq_iff_eq, Int.cast_ofNat_Int, List.lookup_cons, List.lookup_nil, str_beq, insOf, not_true_eq_false, gok0]
  rw [if_neg (by omega)]
  refine letters_wp hl ?_
  refine check_wp (b := true) (os := body) rfl hb ?_
  refine check_wp (b := false) (os := fin) rfl hf ?_
  try simp only [wp_rep, wp_meth, w_lenSo, w_tupT, w_tupL, List.length_map, wp_ok, wp_bad, wp_bind, wS_ok, wS_bad, wS_cons, wS_nil, wS_pass, wS_break, wS_cont, wS_never, wS_set, wS_expr, wS_ret, wS_retN, wS_if, wS_asg, wS_aug, wS_for, wp_lc, wp_m1, wp_m2, wp_mN, wp_aNil, wp_aCons, wp_mC, wp_var, wp_if2, wp_and2, wp_or2, wp_not, wp_chain2, isBl_bl, andK_p, orK_p, andV_p, orV_p, iteK_p, andK_t, andK_f, orK_t, orK_f, andV_t, andV_f, orV_t, orV_f, iteK_t, iteK_f, wp_tTru2, dTru_bl, dTru_lst, dTru_int, dTru_non, wp_mt, wp_get, wp_isi, wp_fld, wp_sl, wp_oNone, wp_oSome, wp_tBool, wp_tNot, wp_tAnd2, wp_tOr2, wp_tAll, wp_gSlot, wp_gsNil, wp_gsCons, wp_gTup, wp_gSub, wp_iAny, wp_iSeq, wp_iTup, wp_iStr, wp_iRange1, wp_iRange2, wp_iZip, wS_fld, wp_make, seqQ, rtQ, turnQ, List.getElem?_cons_zero, List.getElem?_cons_succ, List.set_cons_zero, List.set_cons_succ, wipeD, if_true, if_false, Bool.false_eq_true, Bool.true_eq_false, reduceIte, w_add, w_iadd, w_iaddS, w_addS, w_addL, w_addT, w_sub, w_mul, w_mod, w_fdiv, w_pow, w_neg, w_lt, w_le, w_gt, w_ge, w_eqI, w_neI, w_eqT, w_neT, w_isN, w_isnotN, w_isB, w_isNB, w_len, w_lenT, w_int, w_intB, w_abs, w_min, w_max, w_tup, w_lst, w_new, w_list, w_listN, w_ix, w_ixT, w_ixD, w_inT1, w_notinT1, w_inT2, w_notinT2, w_inT3, w_notinT3, w_inT4, w_notinT4, w_inT5, w_notinT5, w_inT6, w_notinT6, w_inT7, w_notinT7, w_inT8, w_notinT8, w_sl1, at_0, at_1, at_2, at_3, at_4, at_5, hasTy_list, hasTy_str, isNonD, flatD, sEq_T, List.all_cons, List.all_nil, List.any_cons, List.any_nil, Bool.and_true, Bool.true_and, Bool.or_false, Bool.or_true, Bool.true_or, Bool.false_or, Bool.not_true, Bool.not_false, List.length_cons, List.length_nil, Nat.zero_add, Nat.reduceAdd, line_eq, true_and, and_true, String.reduceBEq, Int.reduceBEq, decide_true, decide_false, Int.reduceLT, Int.reduceLE, beq_self_eq_true, Nat.reduceLeDiff, wS_raise, wp_xinit, wp_sets0, wp_sets1, wp_fs, wp_xf, wp_xis, hdQ, setO, List.map_cons, List.map_nil, tabF_cons, tabF_nil, lview, w_inU1, w_inU2, w_inU3, w_inU4, w_notinU1, w_notinU2, w_notinU3, w_notinU4, wp_lcN, and_self, or_true, true_or, or_false, false_or, not_true_eq_false, not_false_eq_true, ne_eq, reduceCtorEq, List.cons.injEq, Bool.and_false, Bool.false_and, Bool.and_self, Bool.or_self, List.mem_cons, List.not_mem_nil, isSub, ty_tup, ty_lst, ty_int, ty_bl, ty_str, ty_non, nb, Bool.and_eq_true, Bool.or_eq_true, decide_eq_true_eq, beq_iff_eq, Int.cast_ofNat_Int, List.lookup_cons, List.lookup_nil, str_beq, insOf, not_true_eq_false, gok0]
  simp only [putFD]
  refine ⟨by decide, ?_⟩
  rw [w_listR (n := 1) (xs := body.map TO.d) rfl]
  try simp only [wp_rep, wp_meth, w_lenSo, w_tupT, w_tupL, List.length_map, wp_ok, wp_bad, wp_bind, wS_ok, wS_bad, wS_cons, wS_nil, wS_pass, wS_break, wS_cont, wS_never, wS_set, wS_expr, wS_ret, wS_retN, wS_if, wS_asg, wS_aug, wS_for, wp_lc, wp_m1, wp_m2, wp_mN, wp_aNil, wp_aCons, wp_mC, wp_var, wp_if2, wp_and2, wp_or2, wp_not, wp_chain2, isBl_bl, andK_p, orK_p, andV_p, orV_p, iteK_p, andK_t, andK_f, orK_t, orK_f, andV_t, andV_f, orV_t, orV_f, iteK_t, iteK_f, wp_tTru2, dTru_bl, dTru_lst, dTru_int, dTru_non, wp_mt, wp_get, wp_isi, wp_fld, wp_sl, wp_oNone, wp_oSome, wp_tBool, wp_tNot, wp_tAnd2, wp_tOr2, wp_tAll, wp_gSlot, wp_gsNil, wp_gsCons, wp_gTup, wp_gSub, wp_iAny, wp_iSeq, wp_iTup, wp_iStr, wp_iRange1, wp_iRange2, wp_iZip, wS_fld, wp_make, seqQ, rtQ, turnQ, List.getElem?_cons_zero, List.getElem?_cons_succ, List.set_cons_zero, List.set_cons_succ, wipeD, if_true, if_false, Bool.false_eq_true, Bool.true_eq_false, reduceIte, w_add, w_iadd, w_iaddS, w_addS, w_addL, w_addT, w_sub, w_mul, w_mod, w_fdiv, w_pow, w_neg, w_lt, w_le, w_gt, w_ge, w_eqI, w_neI, w_eqT, w_neT, w_isN, w_isnotN, w_isB, w_isNB, w_len, w_lenT, w_int, w_intB, w_abs, w_min, w_max, w_tup, w_lst, w_new, w_list, w_listN, w_ix, w_ixT, w_ixD, w_inT1, w_notinT1, w_inT2, w_notinT2, w_inT3, w_notinT3, w_inT4, w_notinT4, w_inT5, w_notinT5, w_inT6, w_notinT6, w_inT7, w_notinT7, w_inT8, w_notinT8, w_sl1, at_0, at_1, at_2, at_3, at_4, at_5, hasTy_list, hasTy_str, isNonD, flatD, sEq_T, List.all_cons, List.all_nil, List.any_cons, List.any_nil, Bool.and_true, Bool.true_and, Bool.or_false, Bool.or_true, Bool.true_or, Bool.false_or, Bool.not_true, Bool.not_false, List.length_cons, List.length_nil, Nat.zero_add, Nat.reduceAdd, line_eq, true_and, and_true, String.reduceBEq, Int.reduceBEq, decide_true, decide_false, Int.reduceLT, Int.reduceLE, beq_self_eq_true, Nat.reduceLeDiff, wS_raise, wp_xinit, wp_sets0, wp_sets1, wp_fs, wp_xf, wp_xis, hdQ, setO, List.map_cons, List.map_nil, tabF_cons, tabF_nil, lview, w_inU1, w_inU2, w_inU3, w_inU4, w_notinU1, w_notinU2, w_notinU3, w_notinU4, wp_lcN, and_self, or_true, true_or, or_false, false_or, not_true_eq_false, not_false_eq_true, ne_eq, reduceCtorEq, List.cons.injEq, Bool.and_false, Bool.false_and, Bool.and_self, Bool.or_self, List.mem_cons, List.not_mem_nil, isSub, ty_tup, ty_lst, ty_int, ty_bl, ty_str, ty_non, nb, Bool.and_eq_true, Bool.or_eq_true, decide_eq_true_eq, beq_iff_eq, Int.cast_ofNat_Int, List.lookup_cons, List.lookup_nil, str_beq, insOf, not_true_eq_false, gok0]
  refine ⟨by decide, ?_⟩
  rw [w_listR (n := 2) (xs := fin.map TO.d) rfl]
  try simp only [wp_rep, wp_meth, w_lenSo, w_tupT, w_tupL, List.length_map, wp_ok, wp_bad, wp_bind, wS_ok, wS_bad, wS_cons, wS_nil, wS_pass, wS_break, wS_cont, wS_never, wS_set, wS_expr, wS_ret, wS_retN, wS_if, wS_asg, wS_aug, wS_for, wp_lc, wp_m1, wp_m2, wp_mN, wp_aNil, wp_aCons, wp_mC, wp_var, wp_if2, wp_and2, wp_or2, wp_not, wp_chain2, isBl_bl, andK_p, orK_p, andV_p, orV_p, iteK_p, andK_t, andK_f, orK_t, orK_f, andV_t, andV_f, orV_t, orV_f, iteK_t, iteK_f, wp_tTru2, dTru_bl, dTru_lst, dTru_int, dTru_non, wp_mt, wp_get, wp_isi, wp_fld, wp_sl, wp_oNone, wp_oSome, wp_tBool, wp_tNot, wp_tAnd2, wp_tOr2, wp_tAll, wp_gSlot, wp_gsNil, wp_gsCons, wp_gTup, wp_gSub, wp_iAny, wp_iSeq, wp_iTup, wp_iStr, wp_iRange1, wp_iRange2, wp_iZip, wS_fld, wp_make, seqQ, rtQ, turnQ, List.getElem?_cons_zero, List.getElem?_cons_succ, List.set_cons_zero, List.set_cons_succ, wipeD, if_true, if_false, Bool.false_eq_true, Bool.true_eq_false, reduceIte, w_add, w_iadd, w_iaddS, w_addS, w_addL, w_addT, w_sub, w_mul, w_mod, w_fdiv, w_pow, w_neg, w_lt, w_le, w_gt, w_ge, w_eqI, w_neI, w_eqT, w_neT, w_isN, w_isnotN, w_isB, w_isNB, w_len, w_lenT, w_int, w_intB, w_abs, w_min, w_max, w_tup, w_lst, w_new, w_list, w_listN, w_ix, w_ixT, w_ixD, w_inT1, w_notinT1, w_inT2, w_notinT2, w_inT3, w_notinT3, w_inT4, w_notinT4, w_inT5, w_notinT5, w_inT6, w_notinT6, w_inT7, w_notinT7, w_inT8, w_notinT8, w_sl1, at_0, at_1, at_2, at_3, at_4, at_5, hasTy_list, hasTy_str, isNonD, flatD, sEq_T, List.all_cons, List.all_nil, List.any_cons, List.any_nil, Bool.and_true, Bool.true_and, Bool.or_false, Bool.or_true, Bool.true_or, Bool.false_or, Bool.not_true, Bool.not_false, List.length_cons, List.length_nil, Nat.zero_add, Nat.reduceAdd, line_eq, true_and, and_true, String.reduceBEq, Int.reduceBEq, decide_true, decide_false, Int.reduceLT, Int.reduceLE, beq_self_eq_true, Nat.reduceLeDiff, wS_raise, wp_xinit, wp_sets0, wp_sets1, wp_fs, wp_xf, wp_xis, hdQ, setO, List.map_cons, List.map_nil, tabF_cons, tabF_nil, lview, w_inU1, w_inU2, w_inU3, w_inU4, w_notinU1, w_notinU2, w_notinU3, w_notinU4, wp_lcN, and_self, or_true, true_or, or_false, false_or, not_true_eq_false, not_false_eq_true, ne_eq, reduceCtorEq, List.cons.injEq, Bool.and_false, Bool.false_and, Bool.and_self, Bool.or_self, List.mem_cons, List.not_mem_nil, isSub, ty_tup, ty_lst, ty_int, ty_bl, ty_str, ty_non, nb, Bool.and_eq_true, Bool.or_eq_true, decide_eq_true_eq, beq_iff_eq, Int.cast_ofNat_Int, List.lookup_cons, List.lookup_nil, str_beq, insOf, not_true_eq_false, gok0]
  have ef : putFD (Str.ofString "finish") (D.lst (fin.map TO.d)) (putFD (Str.ofString "body") (D.lst (body.map TO.d)) [(Str.ofString "letters", D.str (tx l))]) = [(Str.ofString "letters", .str (tx l)), (Str.ofString "body", .lst (body.map TO.d)), (Str.ofString "finish", .lst (fin.map TO.d))] := by
    simp only [putFD, ofString_inj, String.reduceEq, if_false]
  rw [ef]
  have eb : putFD (Str.ofString "body") (D.lst (body.map TO.d)) [(Str.ofString "letters", D.str (tx l))] = [(Str.ofString "letters", .str (tx l)), (Str.ofString "body", .lst (body.map TO.d))] := by
    simp only [putFD, ofString_inj, String.reduceEq, if_false]
  rw [eb]
  refine ⟨by show 2 < 1000; decide, rcD l body fin, ?_, ?_, k⟩
  · have e1 : ∀ {s : S} (os : List TO), frzD s 4 19 (.lst (os.map TO.d)) = some (.lst (os.map TO.d)) := fun os => by
      show (allD (frzD _ 4 18) (os.map TO.d)).map D.lst = _
      rw [frz_tos (k := 16) os]
      rfl
    show (allF (frzD _ 4 19) [(Str.ofString "letters", .str (tx l)), (Str.ofString "body", .lst (body.map TO.d)), (Str.ofString "finish", .lst (fin.map TO.d))]).map (D.ins "TextRecipe") = _
    unfold allF allF allF allF
    rw [e1, e1]
    rfl
  · have h1 : ltO 4 (.lst (body.map TO.d)) = true := lt_tos _
    have h2 : ltO 4 (.lst (fin.map TO.d)) = true := lt_tos _
    have h3 : ltO 4 out_ = true := rfl
    unfold stOk
    simp [hA, h1, h2, h3]
end
end
end K11
namespace K11
open PySem PySem.Spec PyProof.Rows L2 Pm
noncomputable section
/-! ### the texts -/
section
variable {s : S} {Q : D → S → Prop} {E : D → S → Prop} {ρ : Rho} {l : List Char} {A : O} {B F : List TO}
def txD (x : List Char) : D := .str (tx x)
def tail3 (B F : List TO) : S := [.lst (B.map TO.d), .lst (F.map TO.d), out_]
def Sm (T : List (List Char)) (n : Nat) : Prop := ∀ x ∈ T, x.length ≤ n
theorem w_ext {n m : Nat} {xs ys : List D} (h1 : s[n]? = some (.lst xs)) (h2 : s[m]? = some (.lst ys)) : wp (dExtend (.ref n) [.ref m] s) Q E = (xs.length + ys.length ≤ sizeLine ∧ Q .non (s.set n (.lst (xs ++ ys)))) := by
  unfold dExtend
  simp only [h1, h2]
  by_cases h : xs.length + ys.length ≤ sizeLine
  · rw [if_pos h, wp_ok]
    simp [h]
  · rw [if_neg h, wp_bad]
    simp [h]
theorem w_appd {n : Nat} {xs : List D} {d : D} (h1 : s[n]? = some (.lst xs)) : wp (dAppend (.ref n) [d] s) Q E = (xs.length < sizeLine ∧ Q .non (s.set n (.lst (xs ++ [d])))) := by
  unfold dAppend
  simp only [h1]
  by_cases h : xs.length < sizeLine
  · rw [if_pos h, wp_ok]
    simp [h]
  · rw [if_neg h, wp_bad]
    simp [h]
theorem w_addN {x y : D} {a b : List D} (h1 : lview s x = some a) (h2 : lview s y = some b) : wp (dAddN x y s) Q E = (a.length + b.length ≤ sizeLine ∧ Q (.ref s.length) (s ++ [.lst (a ++ b)])) := by
  unfold dAddN
  simp only [h1, h2]
  by_cases h : a.length + b.length ≤ sizeLine
  · rw [if_pos h, wp_ok]
    simp [h]
  · rw [if_neg h, wp_bad]
    simp [h]
theorem any_wp {d : D} {xs : List D} {k : Nat} {Q : (List D × Option Nat) → S → Prop} (hv : ρ[k]? = some (some d)) (h : lview s d = some xs) (q : ∀ gd, (∀ w, gOk gd xs (s ++ w)) → Q (xs, gd) s) : wp (iAny (mVar k) ρ s) Q E := by
  have e : mVar k ρ s = .ok d s := by
    unfold mVar
    rw [hv]
  unfold iAny
  rw [e]
  show wp (match d with
    | .lst xs => R.ok (xs, none) s
    | .tup xs => .ok (xs, none) s
    | .str x => .ok (x.cps.toList.map fun c => .str ⟨#[c]⟩, none) s
    | .ref n => (match s[n]? with
      | some (.lst xs) => .ok (xs, some n) s
      | _ => .bad)
    | _ => .bad) Q E
  cases d with
  | lst ys =>
    cases h
    rw [wp_ok]
    exact q none fun _ => trivial
  | ref n =>
    simp only [lview] at h
    split at h
    · rename_i ys e1
      cases h
      simp only [e1]
      rw [wp_ok]
      refine q (some n) fun w => ?_
      show (s ++ w)[n]? = _
      rw [List.getElem?_append_left (List.getElem?_eq_some_iff.mp e1).1, e1]
    · cases h
  | _ => cases h
def ext_b : MS := (sExpr (mMt "list" dExtend (mVar 5) (aCons (mLcN (iAny (mVar 1)) (gSlot 10) tAll (m2 dAdd (mVar 6) (mVar 10)) [10]) aNil)))
theorem longer_wp {gd : Option Nat} {all : List D} {v2 v3 v4 v7 v8 v9 v10 : Option D} {Q' : C → S → Prop} {E' : D → Rho → S → Prop} (hl : l.length ≤ 4) (hg : ∀ w, gOk gd all (s ++ w)) : ∀ (L X : List (List Char)) (w : S) (v6 : Option D), Sm L 20 → X.length + 4 * L.length ≤ 1000 →
    (∀ w v6, Q' (.nx [some (.ref 0), some (.str (tx l)), v2, v3, v4, some (.ref s.length), v6, v7, v8, v9, v10]) (s ++ .lst ((X ++ L.flatMap fun x => l.map fun c => x ++ [c]).map txD) :: w)) →
    wS (forL gd all (gSlot 6) ext_b (L.map txD) [some (.ref 0), some (.str (tx l)), v2, v3, v4, some (.ref s.length), v6, v7, v8, v9, v10] (s ++ .lst (X.map txD) :: w)) Q' E'
  | [], X, w, v6, hs, hz, k => by
    rw [List.map_nil, wS_forL_nil]
    refine ⟨hg _, ?_⟩
    have := k w v6
    rwa [List.flatMap_nil, List.append_nil] at this
  | x :: L, X, w, v6, hs, hz, k => by
    rw [List.map_cons, wS_forL_cons]
    refine ⟨hg _, ?_⟩
    have e0 : (s ++ O.lst (X.map txD) :: w)[s.length]? = some (.lst (X.map txD)) := by simp
    have hx : x.length ≤ 20 := hs x List.mem_cons_self
    simp only [List.length_cons] at hz
    unfold ext_b
    try simp only [wp_rep, wp_meth, w_lenSo, w_tupT, w_tupL, List.length_map, wp_ok, wp_bad, wp_bind, wS_ok, wS_bad, wS_cons, wS_nil, wS_pass, wS_break, wS_cont, wS_never, wS_set, wS_expr, wS_ret, wS_retN, wS_if, wS_asg, wS_aug, wS_for, wp_lc, wp_m1, wp_m2, wp_mN, wp_aNil, wp_aCons, wp_mC, wp_var, wp_if2, wp_and2, wp_or2, wp_not, wp_chain2, isBl_bl, andK_p, orK_p, andV_p, orV_p, iteK_p, andK_t, andK_f, orK_t, orK_f, andV_t, andV_f, orV_t, orV_f, iteK_t, iteK_f, wp_tTru2, dTru_bl, dTru_lst, dTru_int, dTru_non, wp_mt, wp_get, wp_isi, wp_fld, wp_sl, wp_oNone, wp_oSome, wp_tBool, wp_tNot, wp_tAnd2, wp_tOr2, wp_tAll, wp_gSlot, wp_gsNil, wp_gsCons, wp_gTup, wp_gSub, wp_iAny, wp_iSeq, wp_iTup, wp_iStr, wp_iRange1, wp_iRange2, wp_iZip, wS_fld, wp_make, seqQ, rtQ, turnQ, List.getElem?_cons_zero, List.getElem?_cons_succ, List.set_cons_zero, List.set_cons_succ, wipeD, if_true, if_false, Bool.false_eq_true, Bool.true_eq_false, reduceIte, w_add, w_iadd, w_iaddS, w_addS, w_addL, w_addT, w_sub, w_mul, w_mod, w_fdiv, w_pow, w_neg, w_lt, w_le, w_gt, w_ge, w_eqI, w_neI, w_eqT, w_neT, w_isN, w_isnotN, w_isB, w_isNB, w_len, w_lenT, w_int, w_intB, w_abs, w_min, w_max, w_tup, w_lst, w_new, w_list, w_listN, w_ix, w_ixT, w_ixD, w_inT1, w_notinT1, w_inT2, w_notinT2, w_inT3, w_notinT3, w_inT4, w_notinT4, w_inT5, w_notinT5, w_inT6, w_notinT6, w_inT7, w_notinT7, w_inT8, w_notinT8, w_sl1, at_0, at_1, at_2, at_3, at_4, at_5, hasTy_list, hasTy_str, isNonD, flatD, sEq_T, List.all_cons, List.all_nil, List.any_cons, List.any_nil, Bool.and_true, Bool.true_and, Bool.or_false, Bool.or_true, Bool.true_or, Bool.false_or, Bool.not_true, Bool.not_false, List.length_cons, List.length_nil, Nat.zero_add, Nat.reduceAdd, line_eq, true_and, and_true, String.reduceBEq, Int.reduceBEq, decide_true, decide_false, Int.reduceLT, Int.reduceLE, beq_self_eq_true, Nat.reduceLeDiff, wS_raise, wp_xinit, wp_sets0, wp_sets1, wp_fs, wp_xf, wp_xis, hdQ, setO, List.map_cons, List.map_nil, tabF_cons, tabF_nil, lview, w_inU1, w_inU2, w_inU3, w_inU4, w_notinU1, w_notinU2, w_notinU3, w_notinU4, wp_lcN, and_self, or_true, true_or, or_false, false_or, not_true_eq_false, not_false_eq_true, ne_eq, reduceCtorEq, List.cons.injEq, Bool.and_false, Bool.false_and, Bool.and_self, Bool.or_self, List.mem_cons, List.not_mem_nil, isSub, ty_tup, ty_lst, ty_int, ty_bl, ty_str, ty_non, nb, Bool.and_eq_true, Bool.or_eq_true, decide_eq_true_eq, beq_iff_eq, Int.cast_ofNat_Int, List.lookup_cons, List.lookup_nil, str_beq, insOf, not_true_eq_false, gok0]
    refine ⟨hasTy_ref e0, ?_⟩
    rw [tx_chars]
    refine wp_mapP (xs := l) (enc := fun c => .str (tx [c])) (f := fun c => txD (x ++ [c])) trivial (fun c hc Q2 h2 => ?_) ?_
    · try simp only [wp_rep, wp_meth, w_lenSo, w_tupT, w_tupL, List.length_map, wp_ok, wp_bad, wp_bind, wS_ok, wS_bad, wS_cons, wS_nil, wS_pass, wS_break, wS_cont, wS_never, wS_set, wS_expr, wS_ret, wS_retN, wS_if, wS_asg, wS_aug, wS_for, wp_lc, wp_m1, wp_m2, wp_mN, wp_aNil, wp_aCons, wp_mC, wp_var, wp_if2, wp_and2, wp_or2, wp_not, wp_chain2, isBl_bl, andK_p, orK_p, andV_p, orV_p, iteK_p, andK_t, andK_f, orK_t, orK_f, andV_t, andV_f, orV_t, orV_f, iteK_t, iteK_f, wp_tTru2, dTru_bl, dTru_lst, dTru_int, dTru_non, wp_mt, wp_get, wp_isi, wp_fld, wp_sl, wp_oNone, wp_oSome, wp_tBool, wp_tNot, wp_tAnd2, wp_tOr2, wp_tAll, wp_gSlot, wp_gsNil, wp_gsCons, wp_gTup, wp_gSub, wp_iAny, wp_iSeq, wp_iTup, wp_iStr, wp_iRange1, wp_iRange2, wp_iZip, wS_fld, wp_make, seqQ, rtQ, turnQ, List.getElem?_cons_zero, List.getElem?_cons_succ, List.set_cons_zero, List.set_cons_succ, wipeD, if_true, if_false, Bool.false_eq_true, Bool.true_eq_false, reduceIte, w_add, w_iadd, w_iaddS, w_addS, w_addL, w_addT, w_sub, w_mul, w_mod, w_fdiv, w_pow, w_neg, w_lt, w_le, w_gt, w_ge, w_eqI, w_neI, w_eqT, w_neT, w_isN, w_isnotN, w_isB, w_isNB, w_len, w_lenT, w_int, w_intB, w_abs, w_min, w_max, w_tup, w_lst, w_new, w_list, w_listN, w_ix, w_ixT, w_ixD, w_inT1, w_notinT1, w_inT2, w_notinT2, w_inT3, w_notinT3, w_inT4, w_notinT4, w_inT5, w_notinT5, w_inT6, w_notinT6, w_inT7, w_notinT7, w_inT8, w_notinT8, w_sl1, at_0, at_1, at_2, at_3, at_4, at_5, hasTy_list, hasTy_str, isNonD, flatD, sEq_T, List.all_cons, List.all_nil, List.any_cons, List.any_nil, Bool.and_true, Bool.true_and, Bool.or_false, Bool.or_true, Bool.true_or, Bool.false_or, Bool.not_true, Bool.not_false, List.length_cons, List.length_nil, Nat.zero_add, Nat.reduceAdd, line_eq, true_and, and_true, String.reduceBEq, Int.reduceBEq, decide_true, decide_false, Int.reduceLT, Int.reduceLE, beq_self_eq_true, Nat.reduceLeDiff, wS_raise, wp_xinit, wp_sets0, wp_sets1, wp_fs, wp_xf, wp_xis, hdQ, setO, List.map_cons, List.map_nil, tabF_cons, tabF_nil, lview, w_inU1, w_inU2, w_inU3, w_inU4, w_notinU1, w_notinU2, w_notinU3, w_notinU4, wp_lcN, and_self, or_true, true_or, or_false, false_or, not_true_eq_false, not_false_eq_true, ne_eq, reduceCtorEq, List.cons.injEq, Bool.and_false, Bool.false_and, Bool.and_self, Bool.or_self, List.mem_cons, List.not_mem_nil, isSub, ty_tup, ty_lst, ty_int, ty_bl, ty_str, ty_non, nb, Bool.and_eq_true, Bool.or_eq_true, decide_eq_true_eq, beq_iff_eq, Int.cast_ofNat_Int, List.lookup_cons, List.lookup_nil, str_beq, insOf, not_true_eq_false, gok0]
      unfold txD
      rw [x_add, line_eq]
      exact ⟨by simp; omega, h2⟩
    · refine ⟨by simp [tx]; omega, ?_⟩
      have e1 : (s ++ O.lst (X.map txD) :: w ++ [O.lst (l.map fun c => txD (x ++ [c]))])[s.length]? = some (.lst (X.map txD)) := by simp
      have e2 : (s ++ O.lst (X.map txD) :: w ++ [O.lst (l.map fun c => txD (x ++ [c]))])[(s ++ O.lst (X.map txD) :: w).length]? = some (.lst (l.map fun c => txD (x ++ [c]))) := by
        rw [List.getElem?_append_right (Nat.le_refl _), Nat.sub_self]
        rfl
      rw [w_ext e1 e2, line_eq]
      refine ⟨by simp; omega, ?_⟩
      have e3 : (s ++ O.lst (X.map txD) :: w ++ [O.lst (l.map fun c => txD (x ++ [c]))]).set s.length (.lst (X.map txD ++ l.map fun c => txD (x ++ [c]))) = s ++ O.lst ((X ++ l.map fun c => x ++ [c]).map txD) :: (w ++ [O.lst (l.map fun c => txD (x ++ [c]))]) := by
        simp [Function.comp_def]
      rw [e3]
      refine longer_wp hl hg L (X ++ l.map fun c => x ++ [c]) _ _ (fun y hy => hs y (List.mem_cons_of_mem _ hy)) (by simp; omega) fun w v6 => ?_
      have := k w v6
      rwa [List.flatMap_cons, ← List.append_assoc] at this
/-- where the texts stand -/
structure KT (s : S) (B F : List TO) (q : Nat) (T : List (List Char)) : Prop where
  st : ∃ u, Dk s (tail3 B F ++ u)
  at_ : s[q]? = some (.lst (T.map txD))
  hi : 4 ≤ q
theorem frz_txs {s : S} {n k : Nat} : ∀ T : List (List Char), allD (frzD s n (k + 1)) (T.map txD) = some (T.map txD)
  | [] => rfl
  | x :: T => by
    show (match frzD s n (k + 1) (txD x), allD (frzD s n (k + 1)) (T.map txD) with | some y, some ys => some (y :: ys) | _, _ => none) = _
    rw [frz_txs T]
    rfl
theorem fz_texts {q : Nat} {T : List (List Char)} (h : KT s B F q T) (k : ∀ s', Dk s' (tail3 B F) → Q (.lst (T.map txD)) s') : fzQ 4 Q (.ref q) s := by
  obtain ⟨⟨u, L, rfl, hL⟩, hq, hi⟩ := h
  refine ⟨.lst (T.map txD), ?_, ?_, ?_⟩
  · rw [frzD, if_neg (by omega), hq]
    show (allD (frzD _ 4 19) (T.map txD)).map D.lst = _
    rw [frz_txs (k := 18)]
    rfl
  · have h0 : ltO 4 (.lst (L.map .int)) = true := lt_deck
    have h1 : ltO 4 (.lst (B.map TO.d)) = true := lt_tos _
    have h2 : ltO 4 (.lst (F.map TO.d)) = true := lt_tos _
    have h3 : ltO 4 out_ = true := rfl
    unfold stOk tail3
    simp [h0, h1, h2, h3]
  · refine k _ ⟨L, ?_, hL⟩
    simp [tail3]
theorem KT.up {q : Nat} {T : List (List Char)} {w : S} (h : KT s B F q T) : KT (s ++ w) B F q T := by
  obtain ⟨⟨u, hu⟩, hq, hi⟩ := h
  refine ⟨⟨u ++ w, ?_⟩, ?_, hi⟩
  · rw [← List.append_assoc]
    exact hu.app
  · rw [List.getElem?_append_left (List.getElem?_eq_some_iff.mp hq).1, hq]
theorem KT.push {q : Nat} {T : List (List Char)} {x : List Char} (h : KT s B F q T) : KT (s.set q (.lst ((T ++ [x]).map txD))) B F q (T ++ [x]) := by
  obtain ⟨⟨u, hu⟩, hq, hi⟩ := h
  obtain ⟨p, rfl⟩ : ∃ p, q = p + 3 + 1 := ⟨q - 4, by omega⟩
  refine ⟨⟨u.set p (.lst ((T ++ [x]).map txD)), ?_⟩, ?_, hi⟩
  · have h2 := hu.set (q := p + 3) (o := .lst ((T ++ [x]).map txD))
    have e : (tail3 B F ++ u).set (p + 3) (.lst ((T ++ [x]).map txD)) = tail3 B F ++ u.set p (.lst ((T ++ [x]).map txD)) := by
      unfold tail3
      rfl
    rwa [e] at h2
  · rw [List.getElem?_set_self (List.getElem?_eq_some_iff.mp hq).1]
theorem KT.tk {q : Nat} {T : List (List Char)} {m : Int} (h : KT s B F q T) (hm : 0 < m) (k : ∀ v s', 0 ≤ v → v < m → KT s' B F q T → Q (.int v) s') : wp (f_law_take [.ref 0, .int m] s) Q E := by
  obtain ⟨⟨u, hu⟩, hq, hi⟩ := h
  refine K11.tk hu hm fun v s' v0 v1 h' => k v s' v0 v1 ⟨⟨u, h'⟩, ?_, hi⟩
  obtain ⟨p, rfl⟩ : ∃ p, q = p + 1 := ⟨q - 1, by omega⟩
  rw [h'.get, ← hu.get, hq]
theorem w_q {v : Int} {k : D → S → Prop} (h : ∀ q : List Char, q.length ≤ 1 → k (.str (tx q)) s) : wp (dMulS (.str (Str.ofString "q")) (.int (if v = 0 then 1 else 0)) s) k E := by
  unfold dMulS
  by_cases hv : v = 0
  · simp only [hv, if_true]
    rw [if_neg (by decide), wp_ok, ofS]
    exact h ['q'] (by decide)
  · simp only [hv, if_false]
    rw [if_pos (by decide), wp_ok]
    exact h [] (by decide)
def Inv (l : List Char) (B F : List TO) (rest : List D) (ρ : Rho) (s' : S) : Prop := ∃ (q : Nat) (T L : List (List Char)) (d3 : D) (v4 v5 v6 : Option D), KT s' B F q T ∧ Sm T 20 ∧ T.length ≤ 1000 * (4 - rest.length) ∧ rest.length ≤ 3 ∧ lview s' d3 = some (L.map txD) ∧ Sm L (3 - rest.length) ∧ L.length ≤ 4 ^ (3 - rest.length) ∧ ρ = [some (.ref 0), some (.str (tx l)), some (.ref q), some d3, v4, v5, v6, none, none, none, none]
theorem KT.fresh {q : Nat} {T N : List (List Char)} {w : S} (h : KT s B F q T) : KT (s ++ w ++ [.lst (N.map txD)]) B F (s ++ w).length N := by
  obtain ⟨⟨u, hu⟩, hq, hi⟩ := h
  have := (List.getElem?_eq_some_iff.mp hq).1
  refine ⟨⟨u ++ w ++ [.lst (N.map txD)], ?_⟩, ?_, by simp; omega⟩
  · have := (hu.app (u := w)).app (u := [.lst (N.map txD)])
    simpa [List.append_assoc] using this
  · rw [List.getElem?_append_right (Nat.le_refl _), Nat.sub_self]
    rfl
theorem sz_flat {L : List (List Char)} (hl : l.length ≤ 4) : (L.flatMap fun x => l.map fun c => x ++ [c]).length ≤ 4 * L.length := by
  induction L with
  | nil => simp
  | cons x L ih =>
    simp only [List.flatMap_cons, List.length_append, List.length_map, List.length_cons]
    omega
theorem Inv.next {rest : List D} {q : Nat} {T L : List (List Char)} {w : S} {v4 v5 v6 : Option D} (hl : l.length ≤ 4) (hK : KT s B F q T) (hT : Sm T 20) (hTl : T.length ≤ 1000 * (4 - (rest.length + 1))) (hr : rest.length + 1 ≤ 3) (hL : Sm L (3 - (rest.length + 1))) (hLl : L.length ≤ 4 ^ (3 - (rest.length + 1))) (hLz : L.length ≤ 64) :
    Inv l B F rest [some (.ref 0), some (.str (tx l)), some (.ref (s ++ .lst (([] ++ L.flatMap fun x => l.map fun c => x ++ [c]).map txD) :: w).length), some (.ref s.length), v4, v5, v6, none, none, none, none] (s ++ .lst (([] ++ L.flatMap fun x => l.map fun c => x ++ [c]).map txD) :: w ++ [.lst (T.map txD ++ ([] ++ L.flatMap fun x => l.map fun c => x ++ [c]).map txD)]) := by
  rw [List.nil_append]
  have hN : Sm (L.flatMap fun x => l.map fun c => x ++ [c]) (3 - rest.length) := fun y hy => by
    obtain ⟨x, hx, hy⟩ := List.mem_flatMap.mp hy
    obtain ⟨c, hc, rfl⟩ := List.mem_map.mp hy
    have := hL x hx
    simp
    omega
  have hNl := sz_flat (L := L) hl
  generalize (L.flatMap fun x => l.map fun c => x ++ [c]) = N at hN hNl
  refine ⟨_, T ++ N, N, _, _, _, _, ?_, ?_, ?_, by omega, ?_, hN, ?_, rfl⟩
  · rw [← List.map_append]
    exact hK.fresh
  · intro y hy
    rcases List.mem_append.mp hy with h | h
    · exact hT y h
    · have := hN y h
      omega
  · rw [List.length_append]
    omega
  · refine lview_ref ?_
    simp
  · have : (4 : Nat) ^ (3 - rest.length) = 4 ^ (3 - (rest.length + 1)) * 4 := by rw [← Nat.pow_succ]; congr 1; omega
    omega
theorem texts_wp (h : Dk s (tail3 B F)) (hl : l.length ≤ 4) (k : ∀ T s', Sm T 1000 → T.length ≤ 10000 → Dk s' (tail3 B F) → Q (.lst (T.map txD)) s') : wp (f_law_texts [.ref 0, .str (tx l)] s) Q E := by
  have hlen : s.length = 4 := by rw [h.len]; rfl
  refine wp_mkFz ((wp_fn (n := 2) (tot := 11) (m := m_law_texts) rfl).mpr ?_)
  show wS (m_law_texts [some (.ref 0), some (.str (tx l)), none, none, none, none, none, none, none, none, none] _) _ _
  unfold m_law_texts
  try simp only [wp_rep, wp_meth, w_lenSo, w_tupT, w_tupL, List.length_map, wp_ok, wp_bad, wp_bind, wS_ok, wS_bad, wS_cons, wS_nil, wS_pass, wS_break, wS_cont, wS_never, wS_set, wS_expr, wS_ret, wS_retN, wS_if, wS_asg, wS_aug, wS_for, wp_lc, wp_m1, wp_m2, wp_mN, wp_aNil, wp_aCons, wp_mC, wp_var, wp_if2, wp_and2, wp_or2, wp_not, wp_chain2, isBl_bl, andK_p, orK_p, andV_p, orV_p, iteK_p, andK_t, andK_f, orK_t, orK_f, andV_t, andV_f, orV_t, orV_f, iteK_t, iteK_f, wp_tTru2, dTru_bl, dTru_lst, dTru_int, dTru_non, wp_mt, wp_get, wp_isi, wp_fld, wp_sl, wp_oNone, wp_oSome, wp_tBool, wp_tNot, wp_tAnd2, wp_tOr2, wp_tAll, wp_gSlot, wp_gsNil, wp_gsCons, wp_gTup, wp_gSub, wp_iAny, wp_iSeq, wp_iTup, wp_iStr, wp_iRange1, wp_iRange2, wp_iZip, wS_fld, wp_make, seqQ, rtQ, turnQ, List.getElem?_cons_zero, List.getElem?_cons_succ, List.set_cons_zero, List.set_cons_succ, wipeD, if_true, if_false, Bool.false_eq_true, Bool.true_eq_false, reduceIte, w_add, w_iadd, w_iaddS, w_addS, w_addL, w_addT, w_sub, w_mul, w_mod, w_fdiv, w_pow, w_neg, w_lt, w_le, w_gt, w_ge, w_eqI, w_neI, w_eqT, w_neT, w_isN, w_isnotN, w_isB, w_isNB, w_len, w_lenT, w_int, w_intB, w_abs, w_min, w_max, w_tup, w_lst, w_new, w_list, w_listN, w_ix, w_ixT, w_ixD, w_inT1, w_notinT1, w_inT2, w_notinT2, w_inT3, w_notinT3, w_inT4, w_notinT4, w_inT5, w_notinT5, w_inT6, w_notinT6, w_inT7, w_notinT7, w_inT8, w_notinT8, w_sl1, at_0, at_1, at_2, at_3, at_4, at_5, hasTy_list, hasTy_str, isNonD, flatD, sEq_T, List.all_cons, List.all_nil, List.any_cons, List.any_nil, Bool.and_true, Bool.true_and, Bool.or_false, Bool.or_true, Bool.true_or, Bool.false_or, Bool.not_true, Bool.not_false, List.length_cons, List.length_nil, Nat.zero_add, Nat.reduceAdd, line_eq, true_and, and_true, String.reduceBEq, Int.reduceBEq, decide_true, decide_false, Int.reduceLT, Int.reduceLE, beq_self_eq_true, Nat.reduceLeDiff, wS_raise, wp_xinit, wp_sets0, wp_sets1, wp_fs, wp_xf, wp_xis, hdQ, setO, List.map_cons, List.map_nil, tabF_cons, tabF_nil, lview, w_inU1, w_inU2, w_inU3, w_inU4, w_notinU1, w_notinU2, w_notinU3, w_notinU4, wp_lcN, and_self, or_true, true_or, or_false, false_or, not_true_eq_false, not_false_eq_true, ne_eq, reduceCtorEq, List.cons.injEq, Bool.and_false, Bool.false_and, Bool.and_self, Bool.or_self, List.mem_cons, List.not_mem_nil, isSub, ty_tup, ty_lst, ty_int, ty_bl, ty_str, ty_non, nb, Bool.and_eq_true, Bool.or_eq_true, decide_eq_true_eq, beq_iff_eq, Int.cast_ofNat_Int, List.lookup_cons, List.lookup_nil, str_beq, insOf, not_true_eq_false, gok0]
  refine ⟨by decide, ?_⟩
  refine wS_forN (I := Inv l B F) ?_ ?_ _ _ _ ⟨s.length, [[]], [[]], _, _, _, _, ⟨⟨[_], h.app⟩, by simp [txD, tx_nil], by omega⟩, ?_, ?_, ?_, by simp [txD, tx_nil, lview], ?_, ?_, rfl⟩
  · rintro ρ s' ⟨q, T, L, d3, v4, v5, v6, hK, hT, hTl, hr, hd, hL, hLl, rfl⟩
    try simp only [wp_rep, wp_meth, w_lenSo, w_tupT, w_tupL, List.length_map, wp_ok, wp_bad, wp_bind, wS_ok, wS_bad, wS_cons, wS_nil, wS_pass, wS_break, wS_cont, wS_never, wS_set, wS_expr, wS_ret, wS_retN, wS_if, wS_asg, wS_aug, wS_for, wp_lc, wp_m1, wp_m2, wp_mN, wp_aNil, wp_aCons, wp_mC, wp_var, wp_if2, wp_and2, wp_or2, wp_not, wp_chain2, isBl_bl, andK_p, orK_p, andV_p, orV_p, iteK_p, andK_t, andK_f, orK_t, orK_f, andV_t, andV_f, orV_t, orV_f, iteK_t, iteK_f, wp_tTru2, dTru_bl, dTru_lst, dTru_int, dTru_non, wp_mt, wp_get, wp_isi, wp_fld, wp_sl, wp_oNone, wp_oSome, wp_tBool, wp_tNot, wp_tAnd2, wp_tOr2, wp_tAll, wp_gSlot, wp_gsNil, wp_gsCons, wp_gTup, wp_gSub, wp_iAny, wp_iSeq, wp_iTup, wp_iStr, wp_iRange1, wp_iRange2, wp_iZip, wS_fld, wp_make, seqQ, rtQ, turnQ, List.getElem?_cons_zero, List.getElem?_cons_succ, List.set_cons_zero, List.set_cons_succ, wipeD, if_true, if_false, Bool.false_eq_true, Bool.true_eq_false, reduceIte, w_add, w_iadd, w_iaddS, w_addS, w_addL, w_addT, w_sub, w_mul, w_mod, w_fdiv, w_pow, w_neg, w_lt, w_le, w_gt, w_ge, w_eqI, w_neI, w_eqT, w_neT, w_isN, w_isnotN, w_isB, w_isNB, w_len, w_lenT, w_int, w_intB, w_abs, w_min, w_max, w_tup, w_lst, w_new, w_list, w_listN, w_ix, w_ixT, w_ixD, w_inT1, w_notinT1, w_inT2, w_notinT2, w_inT3, w_notinT3, w_inT4, w_notinT4, w_inT5, w_notinT5, w_inT6, w_notinT6, w_inT7, w_notinT7, w_inT8, w_notinT8, w_sl1, at_0, at_1, at_2, at_3, at_4, at_5, hasTy_list, hasTy_str, isNonD, flatD, sEq_T, List.all_cons, List.all_nil, List.any_cons, List.any_nil, Bool.and_true, Bool.true_and, Bool.or_false, Bool.or_true, Bool.true_or, Bool.false_or, Bool.not_true, Bool.not_false, List.length_cons, List.length_nil, Nat.zero_add, Nat.reduceAdd, line_eq, true_and, and_true, String.reduceBEq, Int.reduceBEq, decide_true, decide_false, Int.reduceLT, Int.reduceLE, beq_self_eq_true, Nat.reduceLeDiff, wS_raise, wp_xinit, wp_sets0, wp_sets1, wp_fs, wp_xf, wp_xis, hdQ, setO, List.map_cons, List.map_nil, tabF_cons, tabF_nil, lview, w_inU1, w_inU2, w_inU3, w_inU4, w_notinU1, w_notinU2, w_notinU3, w_notinU4, wp_lcN, and_self, or_true, true_or, or_false, false_or, not_true_eq_false, not_false_eq_true, ne_eq, reduceCtorEq, List.cons.injEq, Bool.and_false, Bool.false_and, Bool.and_self, Bool.or_self, List.mem_cons, List.not_mem_nil, isSub, ty_tup, ty_lst, ty_int, ty_bl, ty_str, ty_non, nb, Bool.and_eq_true, Bool.or_eq_true, decide_eq_true_eq, beq_iff_eq, Int.cast_ofNat_Int, List.lookup_cons, List.lookup_nil, str_beq, insOf, not_true_eq_false, gok0]
    refine KT.tk hK (by decide) fun v s1 v0 v1 hK => ?_
    try simp only [wp_rep, wp_meth, w_lenSo, w_tupT, w_tupL, List.length_map, wp_ok, wp_bad, wp_bind, wS_ok, wS_bad, wS_cons, wS_nil, wS_pass, wS_break, wS_cont, wS_never, wS_set, wS_expr, wS_ret, wS_retN, wS_if, wS_asg, wS_aug, wS_for, wp_lc, wp_m1, wp_m2, wp_mN, wp_aNil, wp_aCons, wp_mC, wp_var, wp_if2, wp_and2, wp_or2, wp_not, wp_chain2, isBl_bl, andK_p, orK_p, andV_p, orV_p, iteK_p, andK_t, andK_f, orK_t, orK_f, andV_t, andV_f, orV_t, orV_f, iteK_t, iteK_f, wp_tTru2, dTru_bl, dTru_lst, dTru_int, dTru_non, wp_mt, wp_get, wp_isi, wp_fld, wp_sl, wp_oNone, wp_oSome, wp_tBool, wp_tNot, wp_tAnd2, wp_tOr2, wp_tAll, wp_gSlot, wp_gsNil, wp_gsCons, wp_gTup, wp_gSub, wp_iAny, wp_iSeq, wp_iTup, wp_iStr, wp_iRange1, wp_iRange2, wp_iZip, wS_fld, wp_make, seqQ, rtQ, turnQ, List.getElem?_cons_zero, List.getElem?_cons_succ, List.set_cons_zero, List.set_cons_succ, wipeD, if_true, if_false, Bool.false_eq_true, Bool.true_eq_false, reduceIte, w_add, w_iadd, w_iaddS, w_addS, w_addL, w_addT, w_sub, w_mul, w_mod, w_fdiv, w_pow, w_neg, w_lt, w_le, w_gt, w_ge, w_eqI, w_neI, w_eqT, w_neT, w_isN, w_isnotN, w_isB, w_isNB, w_len, w_lenT, w_int, w_intB, w_abs, w_min, w_max, w_tup, w_lst, w_new, w_list, w_listN, w_ix, w_ixT, w_ixD, w_inT1, w_notinT1, w_inT2, w_notinT2, w_inT3, w_notinT3, w_inT4, w_notinT4, w_inT5, w_notinT5, w_inT6, w_notinT6, w_inT7, w_notinT7, w_inT8, w_notinT8, w_sl1, at_0, at_1, at_2, at_3, at_4, at_5, hasTy_list, hasTy_str, isNonD, flatD, sEq_T, List.all_cons, List.all_nil, List.any_cons, List.any_nil, Bool.and_true, Bool.true_and, Bool.or_false, Bool.or_true, Bool.true_or, Bool.false_or, Bool.not_true, Bool.not_false, List.length_cons, List.length_nil, Nat.zero_add, Nat.reduceAdd, line_eq, true_and, and_true, String.reduceBEq, Int.reduceBEq, decide_true, decide_false, Int.reduceLT, Int.reduceLE, beq_self_eq_true, Nat.reduceLeDiff, wS_raise, wp_xinit, wp_sets0, wp_sets1, wp_fs, wp_xf, wp_xis, hdQ, setO, List.map_cons, List.map_nil, tabF_cons, tabF_nil, lview, w_inU1, w_inU2, w_inU3, w_inU4, w_notinU1, w_notinU2, w_notinU3, w_notinU4, wp_lcN, and_self, or_true, true_or, or_false, false_or, not_true_eq_false, not_false_eq_true, ne_eq, reduceCtorEq, List.cons.injEq, Bool.and_false, Bool.false_and, Bool.and_self, Bool.or_self, List.mem_cons, List.not_mem_nil, isSub, ty_tup, ty_lst, ty_int, ty_bl, ty_str, ty_non, nb, Bool.and_eq_true, Bool.or_eq_true, decide_eq_true_eq, beq_iff_eq, Int.cast_ofNat_Int, List.lookup_cons, List.lookup_nil, str_beq, insOf, not_true_eq_false, gok0]
    refine w_q fun qs hqs => ?_
    rw [x_add, line_eq]
    refine ⟨by omega, ?_⟩
    have hsg : (l ++ qs).length ≤ 5 := by simp; omega
    generalize l ++ qs = sg at hsg
    try simp only [wp_rep, wp_meth, w_lenSo, w_tupT, w_tupL, List.length_map, wp_ok, wp_bad, wp_bind, wS_ok, wS_bad, wS_cons, wS_nil, wS_pass, wS_break, wS_cont, wS_never, wS_set, wS_expr, wS_ret, wS_retN, wS_if, wS_asg, wS_aug, wS_for, wp_lc, wp_m1, wp_m2, wp_mN, wp_aNil, wp_aCons, wp_mC, wp_var, wp_if2, wp_and2, wp_or2, wp_not, wp_chain2, isBl_bl, andK_p, orK_p, andV_p, orV_p, iteK_p, andK_t, andK_f, orK_t, orK_f, andV_t, andV_f, orV_t, orV_f, iteK_t, iteK_f, wp_tTru2, dTru_bl, dTru_lst, dTru_int, dTru_non, wp_mt, wp_get, wp_isi, wp_fld, wp_sl, wp_oNone, wp_oSome, wp_tBool, wp_tNot, wp_tAnd2, wp_tOr2, wp_tAll, wp_gSlot, wp_gsNil, wp_gsCons, wp_gTup, wp_gSub, wp_iAny, wp_iSeq, wp_iTup, wp_iStr, wp_iRange1, wp_iRange2, wp_iZip, wS_fld, wp_make, seqQ, rtQ, turnQ, List.getElem?_cons_zero, List.getElem?_cons_succ, List.set_cons_zero, List.set_cons_succ, wipeD, if_true, if_false, Bool.false_eq_true, Bool.true_eq_false, reduceIte, w_add, w_iadd, w_iaddS, w_addS, w_addL, w_addT, w_sub, w_mul, w_mod, w_fdiv, w_pow, w_neg, w_lt, w_le, w_gt, w_ge, w_eqI, w_neI, w_eqT, w_neT, w_isN, w_isnotN, w_isB, w_isNB, w_len, w_lenT, w_int, w_intB, w_abs, w_min, w_max, w_tup, w_lst, w_new, w_list, w_listN, w_ix, w_ixT, w_ixD, w_inT1, w_notinT1, w_inT2, w_notinT2, w_inT3, w_notinT3, w_inT4, w_notinT4, w_inT5, w_notinT5, w_inT6, w_notinT6, w_inT7, w_notinT7, w_inT8, w_notinT8, w_sl1, at_0, at_1, at_2, at_3, at_4, at_5, hasTy_list, hasTy_str, isNonD, flatD, sEq_T, List.all_cons, List.all_nil, List.any_cons, List.any_nil, Bool.and_true, Bool.true_and, Bool.or_false, Bool.or_true, Bool.true_or, Bool.false_or, Bool.not_true, Bool.not_false, List.length_cons, List.length_nil, Nat.zero_add, Nat.reduceAdd, line_eq, true_and, and_true, String.reduceBEq, Int.reduceBEq, decide_true, decide_false, Int.reduceLT, Int.reduceLE, beq_self_eq_true, Nat.reduceLeDiff, wS_raise, wp_xinit, wp_sets0, wp_sets1, wp_fs, wp_xf, wp_xis, hdQ, setO, List.map_cons, List.map_nil, tabF_cons, tabF_nil, lview, w_inU1, w_inU2, w_inU3, w_inU4, w_notinU1, w_notinU2, w_notinU3, w_notinU4, wp_lcN, and_self, or_true, true_or, or_false, false_or, not_true_eq_false, not_false_eq_true, ne_eq, reduceCtorEq, List.cons.injEq, Bool.and_false, Bool.false_and, Bool.and_self, Bool.or_self, List.mem_cons, List.not_mem_nil, isSub, ty_tup, ty_lst, ty_int, ty_bl, ty_str, ty_non, nb, Bool.and_eq_true, Bool.or_eq_true, decide_eq_true_eq, beq_iff_eq, Int.cast_ofNat_Int, List.lookup_cons, List.lookup_nil, str_beq, insOf, not_true_eq_false, gok0]
    refine ⟨by decide, ?_⟩
    refine wS_forN (I := fun rest ρ s' => ∃ (T : List (List Char)) (v6 v8 v9 : Option D), KT s' B F q T ∧ Sm T 1000 ∧ T.length + rest.length ≤ 5000 ∧ ρ = [some (.ref 0), some (.str (tx l)), some (.ref q), some d3, v4, v5, v6, some (.str (tx sg)), v8, v9, none]) ?_ ?_ _ _ _ ⟨T, v6, _, _, hK, fun y hy => by have := hT y hy; omega, by simp [rng] at hTl ⊢; omega, rfl⟩
    · rintro ρ s2 ⟨T, v6, v8, v9, hK, hT, hTl, rfl⟩
      try simp only [wp_rep, wp_meth, w_lenSo, w_tupT, w_tupL, List.length_map, wp_ok, wp_bad, wp_bind, wS_ok, wS_bad, wS_cons, wS_nil, wS_pass, wS_break, wS_cont, wS_never, wS_set, wS_expr, wS_ret, wS_retN, wS_if, wS_asg, wS_aug, wS_for, wp_lc, wp_m1, wp_m2, wp_mN, wp_aNil, wp_aCons, wp_mC, wp_var, wp_if2, wp_and2, wp_or2, wp_not, wp_chain2, isBl_bl, andK_p, orK_p, andV_p, orV_p, iteK_p, andK_t, andK_f, orK_t, orK_f, andV_t, andV_f, orV_t, orV_f, iteK_t, iteK_f, wp_tTru2, dTru_bl, dTru_lst, dTru_int, dTru_non, wp_mt, wp_get, wp_isi, wp_fld, wp_sl, wp_oNone, wp_oSome, wp_tBool, wp_tNot, wp_tAnd2, wp_tOr2, wp_tAll, wp_gSlot, wp_gsNil, wp_gsCons, wp_gTup, wp_gSub, wp_iAny, wp_iSeq, wp_iTup, wp_iStr, wp_iRange1, wp_iRange2, wp_iZip, wS_fld, wp_make, seqQ, rtQ, turnQ, List.getElem?_cons_zero, List.getElem?_cons_succ, List.set_cons_zero, List.set_cons_succ, wipeD, if_true, if_false, Bool.false_eq_true, Bool.true_eq_false, reduceIte, w_add, w_iadd, w_iaddS, w_addS, w_addL, w_addT, w_sub, w_mul, w_mod, w_fdiv, w_pow, w_neg, w_lt, w_le, w_gt, w_ge, w_eqI, w_neI, w_eqT, w_neT, w_isN, w_isnotN, w_isB, w_isNB, w_len, w_lenT, w_int, w_intB, w_abs, w_min, w_max, w_tup, w_lst, w_new, w_list, w_listN, w_ix, w_ixT, w_ixD, w_inT1, w_notinT1, w_inT2, w_notinT2, w_inT3, w_notinT3, w_inT4, w_notinT4, w_inT5, w_notinT5, w_inT6, w_notinT6, w_inT7, w_notinT7, w_inT8, w_notinT8, w_sl1, at_0, at_1, at_2, at_3, at_4, at_5, hasTy_list, hasTy_str, isNonD, flatD, sEq_T, List.all_cons, List.all_nil, List.any_cons, List.any_nil, Bool.and_true, Bool.true_and, Bool.or_false, Bool.or_true, Bool.true_or, Bool.false_or, Bool.not_true, Bool.not_false, List.length_cons, List.length_nil, Nat.zero_add, Nat.reduceAdd, line_eq, true_and, and_true, String.reduceBEq, Int.reduceBEq, decide_true, decide_false, Int.reduceLT, Int.reduceLE, beq_self_eq_true, Nat.reduceLeDiff, wS_raise, wp_xinit, wp_sets0, wp_sets1, wp_fs, wp_xf, wp_xis, hdQ, setO, List.map_cons, List.map_nil, tabF_cons, tabF_nil, lview, w_inU1, w_inU2, w_inU3, w_inU4, w_notinU1, w_notinU2, w_notinU3, w_notinU4, wp_lcN, and_self, or_true, true_or, or_false, false_or, not_true_eq_false, not_false_eq_true, ne_eq, reduceCtorEq, List.cons.injEq, Bool.and_false, Bool.false_and, Bool.and_self, Bool.or_self, List.mem_cons, List.not_mem_nil, isSub, ty_tup, ty_lst, ty_int, ty_bl, ty_str, ty_non, nb, Bool.and_eq_true, Bool.or_eq_true, decide_eq_true_eq, beq_iff_eq, Int.cast_ofNat_Int, List.lookup_cons, List.lookup_nil, str_beq, insOf, not_true_eq_false, gok0]
      rw [hlen]
      exact fz_texts hK fun s3 h3 => k T s3 hT (by simp at hTl; omega) h3
    · rintro x rest ρ s2 ⟨T, v6, v8, v9, hK, hT, hTl, rfl⟩
      try simp only [wp_rep, wp_meth, w_lenSo, w_tupT, w_tupL, List.length_map, wp_ok, wp_bad, wp_bind, wS_ok, wS_bad, wS_cons, wS_nil, wS_pass, wS_break, wS_cont, wS_never, wS_set, wS_expr, wS_ret, wS_retN, wS_if, wS_asg, wS_aug, wS_for, wp_lc, wp_m1, wp_m2, wp_mN, wp_aNil, wp_aCons, wp_mC, wp_var, wp_if2, wp_and2, wp_or2, wp_not, wp_chain2, isBl_bl, andK_p, orK_p, andV_p, orV_p, iteK_p, andK_t, andK_f, orK_t, orK_f, andV_t, andV_f, orV_t, orV_f, iteK_t, iteK_f, wp_tTru2, dTru_bl, dTru_lst, dTru_int, dTru_non, wp_mt, wp_get, wp_isi, wp_fld, wp_sl, wp_oNone, wp_oSome, wp_tBool, wp_tNot, wp_tAnd2, wp_tOr2, wp_tAll, wp_gSlot, wp_gsNil, wp_gsCons, wp_gTup, wp_gSub, wp_iAny, wp_iSeq, wp_iTup, wp_iStr, wp_iRange1, wp_iRange2, wp_iZip, wS_fld, wp_make, seqQ, rtQ, turnQ, List.getElem?_cons_zero, List.getElem?_cons_succ, List.set_cons_zero, List.set_cons_succ, wipeD, if_true, if_false, Bool.false_eq_true, Bool.true_eq_false, reduceIte, w_add, w_iadd, w_iaddS, w_addS, w_addL, w_addT, w_sub, w_mul, w_mod, w_fdiv, w_pow, w_neg, w_lt, w_le, w_gt, w_ge, w_eqI, w_neI, w_eqT, w_neT, w_isN, w_isnotN, w_isB, w_isNB, w_len, w_lenT, w_int, w_intB, w_abs, w_min, w_max, w_tup, w_lst, w_new, w_list, w_listN, w_ix, w_ixT, w_ixD, w_inT1, w_notinT1, w_inT2, w_notinT2, w_inT3, w_notinT3, w_inT4, w_notinT4, w_inT5, w_notinT5, w_inT6, w_notinT6, w_inT7, w_notinT7, w_inT8, w_notinT8, w_sl1, at_0, at_1, at_2, at_3, at_4, at_5, hasTy_list, hasTy_str, isNonD, flatD, sEq_T, List.all_cons, List.all_nil, List.any_cons, List.any_nil, Bool.and_true, Bool.true_and, Bool.or_false, Bool.or_true, Bool.true_or, Bool.false_or, Bool.not_true, Bool.not_false, List.length_cons, List.length_nil, Nat.zero_add, Nat.reduceAdd, line_eq, true_and, and_true, String.reduceBEq, Int.reduceBEq, decide_true, decide_false, Int.reduceLT, Int.reduceLE, beq_self_eq_true, Nat.reduceLeDiff, wS_raise, wp_xinit, wp_sets0, wp_sets1, wp_fs, wp_xf, wp_xis, hdQ, setO, List.map_cons, List.map_nil, tabF_cons, tabF_nil, lview, w_inU1, w_inU2, w_inU3, w_inU4, w_notinU1, w_notinU2, w_notinU3, w_notinU4, wp_lcN, and_self, or_true, true_or, or_false, false_or, not_true_eq_false, not_false_eq_true, ne_eq, reduceCtorEq, List.cons.injEq, Bool.and_false, Bool.false_and, Bool.and_self, Bool.or_self, List.mem_cons, List.not_mem_nil, isSub, ty_tup, ty_lst, ty_int, ty_bl, ty_str, ty_non, nb, Bool.and_eq_true, Bool.or_eq_true, decide_eq_true_eq, beq_iff_eq, Int.cast_ofNat_Int, List.lookup_cons, List.lookup_nil, str_beq, insOf, not_true_eq_false, gok0]
      refine KT.tk hK (by decide) fun v s3 v0 v1 hK => ?_
      have xl : ∀ {s : S} {Q : D → S → Prop} {E : D → S → Prop}, wp (dLen [.str (tx sg)] s) Q E = Q (.int sg.length) s := fun {s Q E} => by
        rw [x_len]
        simp only [line_eq, show sg.length ≤ 16777216 by omega, true_and]
      simp only [xl]
      try simp only [wp_rep, wp_meth, w_lenSo, w_tupT, w_tupL, List.length_map, wp_ok, wp_bad, wp_bind, wS_ok, wS_bad, wS_cons, wS_nil, wS_pass, wS_break, wS_cont, wS_never, wS_set, wS_expr, wS_ret, wS_retN, wS_if, wS_asg, wS_aug, wS_for, wp_lc, wp_m1, wp_m2, wp_mN, wp_aNil, wp_aCons, wp_mC, wp_var, wp_if2, wp_and2, wp_or2, wp_not, wp_chain2, isBl_bl, andK_p, orK_p, andV_p, orV_p, iteK_p, andK_t, andK_f, orK_t, orK_f, andV_t, andV_f, orV_t, orV_f, iteK_t, iteK_f, wp_tTru2, dTru_bl, dTru_lst, dTru_int, dTru_non, wp_mt, wp_get, wp_isi, wp_fld, wp_sl, wp_oNone, wp_oSome, wp_tBool, wp_tNot, wp_tAnd2, wp_tOr2, wp_tAll, wp_gSlot, wp_gsNil, wp_gsCons, wp_gTup, wp_gSub, wp_iAny, wp_iSeq, wp_iTup, wp_iStr, wp_iRange1, wp_iRange2, wp_iZip, wS_fld, wp_make, seqQ, rtQ, turnQ, List.getElem?_cons_zero, List.getElem?_cons_succ, List.set_cons_zero, List.set_cons_succ, wipeD, if_true, if_false, Bool.false_eq_true, Bool.true_eq_false, reduceIte, w_add, w_iadd, w_iaddS, w_addS, w_addL, w_addT, w_sub, w_mul, w_mod, w_fdiv, w_pow, w_neg, w_lt, w_le, w_gt, w_ge, w_eqI, w_neI, w_eqT, w_neT, w_isN, w_isnotN, w_isB, w_isNB, w_len, w_lenT, w_int, w_intB, w_abs, w_min, w_max, w_tup, w_lst, w_new, w_list, w_listN, w_ix, w_ixT, w_ixD, w_inT1, w_notinT1, w_inT2, w_notinT2, w_inT3, w_notinT3, w_inT4, w_notinT4, w_inT5, w_notinT5, w_inT6, w_notinT6, w_inT7, w_notinT7, w_inT8, w_notinT8, w_sl1, at_0, at_1, at_2, at_3, at_4, at_5, hasTy_list, hasTy_str, isNonD, flatD, sEq_T, List.all_cons, List.all_nil, List.any_cons, List.any_nil, Bool.and_true, Bool.true_and, Bool.or_false, Bool.or_true, Bool.true_or, Bool.false_or, Bool.not_true, Bool.not_false, List.length_cons, List.length_nil, Nat.zero_add, Nat.reduceAdd, line_eq, true_and, and_true, String.reduceBEq, Int.reduceBEq, decide_true, decide_false, Int.reduceLT, Int.reduceLE, beq_self_eq_true, Nat.reduceLeDiff, wS_raise, wp_xinit, wp_sets0, wp_sets1, wp_fs, wp_xf, wp_xis, hdQ, setO, List.map_cons, List.map_nil, tabF_cons, tabF_nil, lview, w_inU1, w_inU2, w_inU3, w_inU4, w_notinU1, w_notinU2, w_notinU3, w_notinU4, wp_lcN, and_self, or_true, true_or, or_false, false_or, not_true_eq_false, not_false_eq_true, ne_eq, reduceCtorEq, List.cons.injEq, Bool.and_false, Bool.false_and, Bool.and_self, Bool.or_self, List.mem_cons, List.not_mem_nil, isSub, ty_tup, ty_lst, ty_int, ty_bl, ty_str, ty_non, nb, Bool.and_eq_true, Bool.or_eq_true, decide_eq_true_eq, beq_iff_eq, Int.cast_ofNat_Int, List.lookup_cons, List.lookup_nil, str_beq, insOf, not_true_eq_false, gok0]
      obtain ⟨n, hn, hn1, hn2⟩ : ∃ n : Nat, (v * if ((sg.length : Nat) : Int) > 0 then 1 else 0) = n ∧ n ≤ 40 ∧ (0 < n → 0 < sg.length) := by
        by_cases hz : ((sg.length : Nat) : Int) > 0
        · rw [if_pos hz]
          exact ⟨v.toNat, by omega, by omega, fun _ => by omega⟩
        · rw [if_neg hz]
          exact ⟨0, by omega, by omega, fun h => by omega⟩
      rw [hn, show ((n : Nat) : Int).toNat = n from rfl]
      refine ⟨?_, ⟨by omega, by omega⟩, ?_⟩
      · have q1 := small_bits (a := v) (k := 20) (by simp only [Nat.reducePow]; omega)
        have q2 := small_bits (a := if ((sg.length : Nat) : Int) > 0 then 1 else 0) (k := 20) (by split <;> simp)
        omega
      refine wS_forN (I := fun rest ρ s' => ∃ (y : List Char) (v9 : Option D), KT s' B F q T ∧ y.length + rest.length ≤ 100 ∧ (rest ≠ [] → 0 < sg.length) ∧ ρ = [some (.ref 0), some (.str (tx l)), some (.ref q), some d3, v4, v5, some (.str (tx y)), some (.str (tx sg)), some x, v9, none]) ?_ ?_ _ _ _ ⟨[], v9, hK, by simp [rng]; omega, fun hne => hn2 (Nat.pos_of_ne_zero fun h0 => hne (by rw [h0]; rfl)), by rw [tx_nil]⟩
      · rintro ρ s4 ⟨y, v9, hK, hy, _, rfl⟩
        try simp only [wp_rep, wp_meth, w_lenSo, w_tupT, w_tupL, List.length_map, wp_ok, wp_bad, wp_bind, wS_ok, wS_bad, wS_cons, wS_nil, wS_pass, wS_break, wS_cont, wS_never, wS_set, wS_expr, wS_ret, wS_retN, wS_if, wS_asg, wS_aug, wS_for, wp_lc, wp_m1, wp_m2, wp_mN, wp_aNil, wp_aCons, wp_mC, wp_var, wp_if2, wp_and2, wp_or2, wp_not, wp_chain2, isBl_bl, andK_p, orK_p, andV_p, orV_p, iteK_p, andK_t, andK_f, orK_t, orK_f, andV_t, andV_f, orV_t, orV_f, iteK_t, iteK_f, wp_tTru2, dTru_bl, dTru_lst, dTru_int, dTru_non, wp_mt, wp_get, wp_isi, wp_fld, wp_sl, wp_oNone, wp_oSome, wp_tBool, wp_tNot, wp_tAnd2, wp_tOr2, wp_tAll, wp_gSlot, wp_gsNil, wp_gsCons, wp_gTup, wp_gSub, wp_iAny, wp_iSeq, wp_iTup, wp_iStr, wp_iRange1, wp_iRange2, wp_iZip, wS_fld, wp_make, seqQ, rtQ, turnQ, List.getElem?_cons_zero, List.getElem?_cons_succ, List.set_cons_zero, List.set_cons_succ, wipeD, if_true, if_false, Bool.false_eq_true, Bool.true_eq_false, reduceIte, w_add, w_iadd, w_iaddS, w_addS, w_addL, w_addT, w_sub, w_mul, w_mod, w_fdiv, w_pow, w_neg, w_lt, w_le, w_gt, w_ge, w_eqI, w_neI, w_eqT, w_neT, w_isN, w_isnotN, w_isB, w_isNB, w_len, w_lenT, w_int, w_intB, w_abs, w_min, w_max, w_tup, w_lst, w_new, w_list, w_listN, w_ix, w_ixT, w_ixD, w_inT1, w_notinT1, w_inT2, w_notinT2, w_inT3, w_notinT3, w_inT4, w_notinT4, w_inT5, w_notinT5, w_inT6, w_notinT6, w_inT7, w_notinT7, w_inT8, w_notinT8, w_sl1, at_0, at_1, at_2, at_3, at_4, at_5, hasTy_list, hasTy_str, isNonD, flatD, sEq_T, List.all_cons, List.all_nil, List.any_cons, List.any_nil, Bool.and_true, Bool.true_and, Bool.or_false, Bool.or_true, Bool.true_or, Bool.false_or, Bool.not_true, Bool.not_false, List.length_cons, List.length_nil, Nat.zero_add, Nat.reduceAdd, line_eq, true_and, and_true, String.reduceBEq, Int.reduceBEq, decide_true, decide_false, Int.reduceLT, Int.reduceLE, beq_self_eq_true, Nat.reduceLeDiff, wS_raise, wp_xinit, wp_sets0, wp_sets1, wp_fs, wp_xf, wp_xis, hdQ, setO, List.map_cons, List.map_nil, tabF_cons, tabF_nil, lview, w_inU1, w_inU2, w_inU3, w_inU4, w_notinU1, w_notinU2, w_notinU3, w_notinU4, wp_lcN, and_self, or_true, true_or, or_false, false_or, not_true_eq_false, not_false_eq_true, ne_eq, reduceCtorEq, List.cons.injEq, Bool.and_false, Bool.false_and, Bool.and_self, Bool.or_self, List.mem_cons, List.not_mem_nil, isSub, ty_tup, ty_lst, ty_int, ty_bl, ty_str, ty_non, nb, Bool.and_eq_true, Bool.or_eq_true, decide_eq_true_eq, beq_iff_eq, Int.cast_ofNat_Int, List.lookup_cons, List.lookup_nil, str_beq, insOf, not_true_eq_false, gok0]
        refine ⟨hasTy_ref hK.at_, ?_⟩
        rw [w_appd hK.at_, line_eq]
        have hz : T.length + 1 ≤ 5000 := by simp at hTl; omega
        refine ⟨by simp; omega, T ++ [y], _, _, _, ?_, ?_, ?_, rfl, rfl, rfl⟩
        · have := hK.push (x := y)
          rw [List.map_append] at this
          exact this
        · intro z hz
          rcases List.mem_append.mp hz with h | h
          · exact hT z h
          · simp at h hy
            subst h
            omega
        · simp at hTl ⊢
          omega
      · rintro x1 rest1 ρ s4 ⟨y, v9, hK, hy, hne, rfl⟩
        have hsp := hne (by simp)
        simp only [List.length_cons] at hy
        try simp only [wp_rep, wp_meth, w_lenSo, w_tupT, w_tupL, List.length_map, wp_ok, wp_bad, wp_bind, wS_ok, wS_bad, wS_cons, wS_nil, wS_pass, wS_break, wS_cont, wS_never, wS_set, wS_expr, wS_ret, wS_retN, wS_if, wS_asg, wS_aug, wS_for, wp_lc, wp_m1, wp_m2, wp_mN, wp_aNil, wp_aCons, wp_mC, wp_var, wp_if2, wp_and2, wp_or2, wp_not, wp_chain2, isBl_bl, andK_p, orK_p, andV_p, orV_p, iteK_p, andK_t, andK_f, orK_t, orK_f, andV_t, andV_f, orV_t, orV_f, iteK_t, iteK_f, wp_tTru2, dTru_bl, dTru_lst, dTru_int, dTru_non, wp_mt, wp_get, wp_isi, wp_fld, wp_sl, wp_oNone, wp_oSome, wp_tBool, wp_tNot, wp_tAnd2, wp_tOr2, wp_tAll, wp_gSlot, wp_gsNil, wp_gsCons, wp_gTup, wp_gSub, wp_iAny, wp_iSeq, wp_iTup, wp_iStr, wp_iRange1, wp_iRange2, wp_iZip, wS_fld, wp_make, seqQ, rtQ, turnQ, List.getElem?_cons_zero, List.getElem?_cons_succ, List.set_cons_zero, List.set_cons_succ, wipeD, if_true, if_false, Bool.false_eq_true, Bool.true_eq_false, reduceIte, w_add, w_iadd, w_iaddS, w_addS, w_addL, w_addT, w_sub, w_mul, w_mod, w_fdiv, w_pow, w_neg, w_lt, w_le, w_gt, w_ge, w_eqI, w_neI, w_eqT, w_neT, w_isN, w_isnotN, w_isB, w_isNB, w_len, w_lenT, w_int, w_intB, w_abs, w_min, w_max, w_tup, w_lst, w_new, w_list, w_listN, w_ix, w_ixT, w_ixD, w_inT1, w_notinT1, w_inT2, w_notinT2, w_inT3, w_notinT3, w_inT4, w_notinT4, w_inT5, w_notinT5, w_inT6, w_notinT6, w_inT7, w_notinT7, w_inT8, w_notinT8, w_sl1, at_0, at_1, at_2, at_3, at_4, at_5, hasTy_list, hasTy_str, isNonD, flatD, sEq_T, List.all_cons, List.all_nil, List.any_cons, List.any_nil, Bool.and_true, Bool.true_and, Bool.or_false, Bool.or_true, Bool.true_or, Bool.false_or, Bool.not_true, Bool.not_false, List.length_cons, List.length_nil, Nat.zero_add, Nat.reduceAdd, line_eq, true_and, and_true, String.reduceBEq, Int.reduceBEq, decide_true, decide_false, Int.reduceLT, Int.reduceLE, beq_self_eq_true, Nat.reduceLeDiff, wS_raise, wp_xinit, wp_sets0, wp_sets1, wp_fs, wp_xf, wp_xis, hdQ, setO, List.map_cons, List.map_nil, tabF_cons, tabF_nil, lview, w_inU1, w_inU2, w_inU3, w_inU4, w_notinU1, w_notinU2, w_notinU3, w_notinU4, wp_lcN, and_self, or_true, true_or, or_false, false_or, not_true_eq_false, not_false_eq_true, ne_eq, reduceCtorEq, List.cons.injEq, Bool.and_false, Bool.false_and, Bool.and_self, Bool.or_self, List.mem_cons, List.not_mem_nil, isSub, ty_tup, ty_lst, ty_int, ty_bl, ty_str, ty_non, nb, Bool.and_eq_true, Bool.or_eq_true, decide_eq_true_eq, beq_iff_eq, Int.cast_ofNat_Int, List.lookup_cons, List.lookup_nil, str_beq, insOf, not_true_eq_false, gok0]
        simp only [xl]
        refine KT.tk hK (by omega) fun v s5 v0 v1 hK => ?_
        obtain ⟨c, hc, e4, e5⟩ := tx_at sg v0 v1
        rw [e5 (by rw [line_eq]; omega), x_add, line_eq]
        refine ⟨by simp; omega, y ++ [c], _, hK, by simp; omega, fun _ => hsp, rfl, rfl⟩
  · rintro x rest ρ s' ⟨q, T, L, d3, v4, v5, v6, hK, hT, hTl, hr, hd, hL, hLl, rfl⟩
    simp only [List.length_cons] at hTl hr hL hLl
    have hLz : L.length ≤ 64 := by
      have : (4 : Nat) ^ (3 - (rest.length + 1)) ≤ 4 ^ 3 := Nat.pow_le_pow_right (by decide) (by omega)
      omega
    have hL20 : Sm L 20 := fun y hy => by have := hL y hy; omega
    unfold lview at hd
    cases d3 with
    | lst ys =>
      cases hd
      try simp only [wp_rep, wp_meth, w_lenSo, w_tupT, w_tupL, List.length_map, wp_ok, wp_bad, wp_bind, wS_ok, wS_bad, wS_cons, wS_nil, wS_pass, wS_break, wS_cont, wS_never, wS_set, wS_expr, wS_ret, wS_retN, wS_if, wS_asg, wS_aug, wS_for, wp_lc, wp_m1, wp_m2, wp_mN, wp_aNil, wp_aCons, wp_mC, wp_var, wp_if2, wp_and2, wp_or2, wp_not, wp_chain2, isBl_bl, andK_p, orK_p, andV_p, orV_p, iteK_p, andK_t, andK_f, orK_t, orK_f, andV_t, andV_f, orV_t, orV_f, iteK_t, iteK_f, wp_tTru2, dTru_bl, dTru_lst, dTru_int, dTru_non, wp_mt, wp_get, wp_isi, wp_fld, wp_sl, wp_oNone, wp_oSome, wp_tBool, wp_tNot, wp_tAnd2, wp_tOr2, wp_tAll, wp_gSlot, wp_gsNil, wp_gsCons, wp_gTup, wp_gSub, wp_iAny, wp_iSeq, wp_iTup, wp_iStr, wp_iRange1, wp_iRange2, wp_iZip, wS_fld, wp_make, seqQ, rtQ, turnQ, List.getElem?_cons_zero, List.getElem?_cons_succ, List.set_cons_zero, List.set_cons_succ, wipeD, if_true, if_false, Bool.false_eq_true, Bool.true_eq_false, reduceIte, w_add, w_iadd, w_iaddS, w_addS, w_addL, w_addT, w_sub, w_mul, w_mod, w_fdiv, w_pow, w_neg, w_lt, w_le, w_gt, w_ge, w_eqI, w_neI, w_eqT, w_neT, w_isN, w_isnotN, w_isB, w_isNB, w_len, w_lenT, w_int, w_intB, w_abs, w_min, w_max, w_tup, w_lst, w_new, w_list, w_listN, w_ix, w_ixT, w_ixD, w_inT1, w_notinT1, w_inT2, w_notinT2, w_inT3, w_notinT3, w_inT4, w_notinT4, w_inT5, w_notinT5, w_inT6, w_notinT6, w_inT7, w_notinT7, w_inT8, w_notinT8, w_sl1, at_0, at_1, at_2, at_3, at_4, at_5, hasTy_list, hasTy_str, isNonD, flatD, sEq_T, List.all_cons, List.all_nil, List.any_cons, List.any_nil, Bool.and_true, Bool.true_and, Bool.or_false, Bool.or_true, Bool.true_or, Bool.false_or, Bool.not_true, Bool.not_false, List.length_cons, List.length_nil, Nat.zero_add, Nat.reduceAdd, line_eq, true_and, and_true, String.reduceBEq, Int.reduceBEq, decide_true, decide_false, Int.reduceLT, Int.reduceLE, beq_self_eq_true, Nat.reduceLeDiff, wS_raise, wp_xinit, wp_sets0, wp_sets1, wp_fs, wp_xf, wp_xis, hdQ, setO, List.map_cons, List.map_nil, tabF_cons, tabF_nil, lview, w_inU1, w_inU2, w_inU3, w_inU4, w_notinU1, w_notinU2, w_notinU3, w_notinU4, wp_lcN, and_self, or_true, true_or, or_false, false_or, not_true_eq_false, not_false_eq_true, ne_eq, reduceCtorEq, List.cons.injEq, Bool.and_false, Bool.false_and, Bool.and_self, Bool.or_self, List.mem_cons, List.not_mem_nil, isSub, ty_tup, ty_lst, ty_int, ty_bl, ty_str, ty_non, nb, Bool.and_eq_true, Bool.or_eq_true, decide_eq_true_eq, beq_iff_eq, Int.cast_ofNat_Int, List.lookup_cons, List.lookup_nil, str_beq, insOf, not_true_eq_false, gok0]
      refine longer_wp (gd := none) hl (fun _ => trivial) L [] [] _ hL20 (by simp; omega) fun w v6 => ?_
      try simp only [wp_rep, wp_meth, w_lenSo, w_tupT, w_tupL, List.length_map, wp_ok, wp_bad, wp_bind, wS_ok, wS_bad, wS_cons, wS_nil, wS_pass, wS_break, wS_cont, wS_never, wS_set, wS_expr, wS_ret, wS_retN, wS_if, wS_asg, wS_aug, wS_for, wp_lc, wp_m1, wp_m2, wp_mN, wp_aNil, wp_aCons, wp_mC, wp_var, wp_if2, wp_and2, wp_or2, wp_not, wp_chain2, isBl_bl, andK_p, orK_p, andV_p, orV_p, iteK_p, andK_t, andK_f, orK_t, orK_f, andV_t, andV_f, orV_t, orV_f, iteK_t, iteK_f, wp_tTru2, dTru_bl, dTru_lst, dTru_int, dTru_non, wp_mt, wp_get, wp_isi, wp_fld, wp_sl, wp_oNone, wp_oSome, wp_tBool, wp_tNot, wp_tAnd2, wp_tOr2, wp_tAll, wp_gSlot, wp_gsNil, wp_gsCons, wp_gTup, wp_gSub, wp_iAny, wp_iSeq, wp_iTup, wp_iStr, wp_iRange1, wp_iRange2, wp_iZip, wS_fld, wp_make, seqQ, rtQ, turnQ, List.getElem?_cons_zero, List.getElem?_cons_succ, List.set_cons_zero, List.set_cons_succ, wipeD, if_true, if_false, Bool.false_eq_true, Bool.true_eq_false, reduceIte, w_add, w_iadd, w_iaddS, w_addS, w_addL, w_addT, w_sub, w_mul, w_mod, w_fdiv, w_pow, w_neg, w_lt, w_le, w_gt, w_ge, w_eqI, w_neI, w_eqT, w_neT, w_isN, w_isnotN, w_isB, w_isNB, w_len, w_lenT, w_int, w_intB, w_abs, w_min, w_max, w_tup, w_lst, w_new, w_list, w_listN, w_ix, w_ixT, w_ixD, w_inT1, w_notinT1, w_inT2, w_notinT2, w_inT3, w_notinT3, w_inT4, w_notinT4, w_inT5, w_notinT5, w_inT6, w_notinT6, w_inT7, w_notinT7, w_inT8, w_notinT8, w_sl1, at_0, at_1, at_2, at_3, at_4, at_5, hasTy_list, hasTy_str, isNonD, flatD, sEq_T, List.all_cons, List.all_nil, List.any_cons, List.any_nil, Bool.and_true, Bool.true_and, Bool.or_false, Bool.or_true, Bool.true_or, Bool.false_or, Bool.not_true, Bool.not_false, List.length_cons, List.length_nil, Nat.zero_add, Nat.reduceAdd, line_eq, true_and, and_true, String.reduceBEq, Int.reduceBEq, decide_true, decide_false, Int.reduceLT, Int.reduceLE, beq_self_eq_true, Nat.reduceLeDiff, wS_raise, wp_xinit, wp_sets0, wp_sets1, wp_fs, wp_xf, wp_xis, hdQ, setO, List.map_cons, List.map_nil, tabF_cons, tabF_nil, lview, w_inU1, w_inU2, w_inU3, w_inU4, w_notinU1, w_notinU2, w_notinU3, w_notinU4, wp_lcN, and_self, or_true, true_or, or_false, false_or, not_true_eq_false, not_false_eq_true, ne_eq, reduceCtorEq, List.cons.injEq, Bool.and_false, Bool.false_and, Bool.and_self, Bool.or_self, List.mem_cons, List.not_mem_nil, isSub, ty_tup, ty_lst, ty_int, ty_bl, ty_str, ty_non, nb, Bool.and_eq_true, Bool.or_eq_true, decide_eq_true_eq, beq_iff_eq, Int.cast_ofNat_Int, List.lookup_cons, List.lookup_nil, str_beq, insOf, not_true_eq_false, gok0]
      rw [w_addN (a := T.map txD) (b := ([] ++ L.flatMap fun x => l.map fun c => x ++ [c]).map txD) (lview_ref (hK.up.at_)) (lview_ref (by simp)), line_eq]
      refine ⟨?_, Inv.next hl hK hT hTl hr hL hLl hLz⟩
      have := sz_flat (L := L) hl
      simp at this ⊢
      omega
    | ref b =>
      cases e1 : s'[b]? with
      | none => simp [e1] at hd
      | some o =>
        cases o with
        | lst ys =>
          simp only [e1] at hd
          cases hd
          have e2 : (s' ++ [O.lst []])[b]? = some (.lst (L.map txD)) := by rw [List.getElem?_append_left (List.getElem?_eq_some_iff.mp e1).1, e1]
          try simp only [wp_rep, wp_meth, w_lenSo, w_tupT, w_tupL, List.length_map, wp_ok, wp_bad, wp_bind, wS_ok, wS_bad, wS_cons, wS_nil, wS_pass, wS_break, wS_cont, wS_never, wS_set, wS_expr, wS_ret, wS_retN, wS_if, wS_asg, wS_aug, wS_for, wp_lc, wp_m1, wp_m2, wp_mN, wp_aNil, wp_aCons, wp_mC, wp_var, wp_if2, wp_and2, wp_or2, wp_not, wp_chain2, isBl_bl, andK_p, orK_p, andV_p, orV_p, iteK_p, andK_t, andK_f, orK_t, orK_f, andV_t, andV_f, orV_t, orV_f, iteK_t, iteK_f, wp_tTru2, dTru_bl, dTru_lst, dTru_int, dTru_non, wp_mt, wp_get, wp_isi, wp_fld, wp_sl, wp_oNone, wp_oSome, wp_tBool, wp_tNot, wp_tAnd2, wp_tOr2, wp_tAll, wp_gSlot, wp_gsNil, wp_gsCons, wp_gTup, wp_gSub, wp_iAny, wp_iSeq, wp_iTup, wp_iStr, wp_iRange1, wp_iRange2, wp_iZip, wS_fld, wp_make, seqQ, rtQ, turnQ, List.getElem?_cons_zero, List.getElem?_cons_succ, List.set_cons_zero, List.set_cons_succ, wipeD, if_true, if_false, Bool.false_eq_true, Bool.true_eq_false, reduceIte, w_add, w_iadd, w_iaddS, w_addS, w_addL, w_addT, w_sub, w_mul, w_mod, w_fdiv, w_pow, w_neg, w_lt, w_le, w_gt, w_ge, w_eqI, w_neI, w_eqT, w_neT, w_isN, w_isnotN, w_isB, w_isNB, w_len, w_lenT, w_int, w_intB, w_abs, w_min, w_max, w_tup, w_lst, w_new, w_list, w_listN, w_ix, w_ixT, w_ixD, w_inT1, w_notinT1, w_inT2, w_notinT2, w_inT3, w_notinT3, w_inT4, w_notinT4, w_inT5, w_notinT5, w_inT6, w_notinT6, w_inT7, w_notinT7, w_inT8, w_notinT8, w_sl1, at_0, at_1, at_2, at_3, at_4, at_5, hasTy_list, hasTy_str, isNonD, flatD, sEq_T, List.all_cons, List.all_nil, List.any_cons, List.any_nil, Bool.and_true, Bool.true_and, Bool.or_false, Bool.or_true, Bool.true_or, Bool.false_or, Bool.not_true, Bool.not_false, List.length_cons, List.length_nil, Nat.zero_add, Nat.reduceAdd, line_eq, true_and, and_true, String.reduceBEq, Int.reduceBEq, decide_true, decide_false, Int.reduceLT, Int.reduceLE, beq_self_eq_true, Nat.reduceLeDiff, wS_raise, wp_xinit, wp_sets0, wp_sets1, wp_fs, wp_xf, wp_xis, hdQ, setO, List.map_cons, List.map_nil, tabF_cons, tabF_nil, lview, w_inU1, w_inU2, w_inU3, w_inU4, w_notinU1, w_notinU2, w_notinU3, w_notinU4, wp_lcN, and_self, or_true, true_or, or_false, false_or, not_true_eq_false, not_false_eq_true, ne_eq, reduceCtorEq, List.cons.injEq, Bool.and_false, Bool.false_and, Bool.and_self, Bool.or_self, List.mem_cons, List.not_mem_nil, isSub, ty_tup, ty_lst, ty_int, ty_bl, ty_str, ty_non, nb, Bool.and_eq_true, Bool.or_eq_true, decide_eq_true_eq, beq_iff_eq, Int.cast_ofNat_Int, List.lookup_cons, List.lookup_nil, str_beq, insOf, not_true_eq_false, gok0]
          simp only [e2]
          refine longer_wp (gd := some b) hl (fun w => ?_) L [] [] _ hL20 (by simp; omega) ?_
          · show (s' ++ w)[b]? = _
            rw [List.getElem?_append_left (List.getElem?_eq_some_iff.mp e1).1, e1]
          intro w v6
          try simp only [wp_rep, wp_meth, w_lenSo, w_tupT, w_tupL, List.length_map, wp_ok, wp_bad, wp_bind, wS_ok, wS_bad, wS_cons, wS_nil, wS_pass, wS_break, wS_cont, wS_never, wS_set, wS_expr, wS_ret, wS_retN, wS_if, wS_asg, wS_aug, wS_for, wp_lc, wp_m1, wp_m2, wp_mN, wp_aNil, wp_aCons, wp_mC, wp_var, wp_if2, wp_and2, wp_or2, wp_not, wp_chain2, isBl_bl, andK_p, orK_p, andV_p, orV_p, iteK_p, andK_t, andK_f, orK_t, orK_f, andV_t, andV_f, orV_t, orV_f, iteK_t, iteK_f, wp_tTru2, dTru_bl, dTru_lst, dTru_int, dTru_non, wp_mt, wp_get, wp_isi, wp_fld, wp_sl, wp_oNone, wp_oSome, wp_tBool, wp_tNot, wp_tAnd2, wp_tOr2, wp_tAll, wp_gSlot, wp_gsNil, wp_gsCons, wp_gTup, wp_gSub, wp_iAny, wp_iSeq, wp_iTup, wp_iStr, wp_iRange1, wp_iRange2, wp_iZip, wS_fld, wp_make, seqQ, rtQ, turnQ, List.getElem?_cons_zero, List.getElem?_cons_succ, List.set_cons_zero, List.set_cons_succ, wipeD, if_true, if_false, Bool.false_eq_true, Bool.true_eq_false, reduceIte, w_add, w_iadd, w_iaddS, w_addS, w_addL, w_addT, w_sub, w_mul, w_mod, w_fdiv, w_pow, w_neg, w_lt, w_le, w_gt, w_ge, w_eqI, w_neI, w_eqT, w_neT, w_isN, w_isnotN, w_isB, w_isNB, w_len, w_lenT, w_int, w_intB, w_abs, w_min, w_max, w_tup, w_lst, w_new, w_list, w_listN, w_ix, w_ixT, w_ixD, w_inT1, w_notinT1, w_inT2, w_notinT2, w_inT3, w_notinT3, w_inT4, w_notinT4, w_inT5, w_notinT5, w_inT6, w_notinT6, w_inT7, w_notinT7, w_inT8, w_notinT8, w_sl1, at_0, at_1, at_2, at_3, at_4, at_5, hasTy_list, hasTy_str, isNonD, flatD, sEq_T, List.all_cons, List.all_nil, List.any_cons, List.any_nil, Bool.and_true, Bool.true_and, Bool.or_false, Bool.or_true, Bool.true_or, Bool.false_or, Bool.not_true, Bool.not_false, List.length_cons, List.length_nil, Nat.zero_add, Nat.reduceAdd, line_eq, true_and, and_true, String.reduceBEq, Int.reduceBEq, decide_true, decide_false, Int.reduceLT, Int.reduceLE, beq_self_eq_true, Nat.reduceLeDiff, wS_raise, wp_xinit, wp_sets0, wp_sets1, wp_fs, wp_xf, wp_xis, hdQ, setO, List.map_cons, List.map_nil, tabF_cons, tabF_nil, lview, w_inU1, w_inU2, w_inU3, w_inU4, w_notinU1, w_notinU2, w_notinU3, w_notinU4, wp_lcN, and_self, or_true, true_or, or_false, false_or, not_true_eq_false, not_false_eq_true, ne_eq, reduceCtorEq, List.cons.injEq, Bool.and_false, Bool.false_and, Bool.and_self, Bool.or_self, List.mem_cons, List.not_mem_nil, isSub, ty_tup, ty_lst, ty_int, ty_bl, ty_str, ty_non, nb, Bool.and_eq_true, Bool.or_eq_true, decide_eq_true_eq, beq_iff_eq, Int.cast_ofNat_Int, List.lookup_cons, List.lookup_nil, str_beq, insOf, not_true_eq_false, gok0]
          rw [w_addN (a := T.map txD) (b := ([] ++ L.flatMap fun x => l.map fun c => x ++ [c]).map txD) (lview_ref (hK.up.at_)) (lview_ref (by simp)), line_eq]
          refine ⟨?_, Inv.next hl hK hT hTl hr hL hLl hLz⟩
          have := sz_flat (L := L) hl
          simp at this ⊢
          omega
        | _ => simp [e1] at hd
    | _ => cases hd
  · intro y hy
    simp at hy
    subst hy
    simp
  · simp [rng]
  · simp [rng]
  · intro y hy
    simp at hy
    subst hy
    simp
  · simp [rng]
end
end
end K11
namespace K11
open PySem PySem.Spec PyProof.Rows L2 Pm
noncomputable section
theorem cutO_lt {n : Nat} {d : D} (h : ltD n d = true) : cutO n (some d) = some d := if_pos h
theorem lt_txs {n : Nat} (T : List (List Char)) : ltDs n (T.map txD) = true := by
  induction T with
  | nil => rfl
  | cons x T ih =>
    show (ltD n (txD x) && ltDs n (T.map txD)) = true
    rw [ih]
    rfl
theorem to_ok (k : Nat) (o : TO) : plainOk (k + 2) o.d = true := by
  cases o <;> simp [TO.d, TO.args, plainOk, tx_ok, ofS, line_eq]
theorem tos_ok {k : Nat} (os : List TO) : (os.map TO.d).all (plainOk (k + 2)) = true := by
  rw [List.all_map]
  exact List.all_eq_true.mpr fun o _ => to_ok k o
theorem optT_ok {k : Nat} (w : Option (List Char)) : plainOk (k + 1) (optT w) = true := by
  cases w with
  | none => rfl
  | some w => exact tx_ok w
theorem plain_eq : ∀ k, fn_law_plain k = g_plain k
  | 0 => rfl
  | k + 1 => by
    unfold fn_law_plain g_plain
    rw [plain_eq k]
    rfl
theorem law_plain (ns : List Int) (hl : ns.length ≤ 63) (hb : ∀ z ∈ ns, Builtin.Int.intBits z ≤ 1048576) : ∃ s, f_law [.lst (ns.map .int)] [] = .ok (.bl true) s := by
  have main : wp (f_law [.lst (ns.map .int)] []) (fun d _ => d = .bl true) := by
    refine (wp_fn (n := 1) (tot := 11) (m := m_law) rfl).mpr ?_
    show wS (m_law [some (.lst (ns.map .int)), none, none, none, none, none, none, none, none, none, none] _) _ _
    unfold m_law
    try simp only [wp_rep, wp_meth, w_lenSo, w_tupT, w_tupL, List.length_map, wp_ok, wp_bad, wp_bind, wS_ok, wS_bad, wS_cons, wS_nil, wS_pass, wS_break, wS_cont, wS_never, wS_set, wS_expr, wS_ret, wS_retN, wS_if, wS_asg, wS_aug, wS_for, wp_lc, wp_m1, wp_m2, wp_mN, wp_aNil, wp_aCons, wp_mC, wp_var, wp_if2, wp_and2, wp_or2, wp_not, wp_chain2, isBl_bl, andK_p, orK_p, andV_p, orV_p, iteK_p, andK_t, andK_f, orK_t, orK_f, andV_t, andV_f, orV_t, orV_f, iteK_t, iteK_f, wp_tTru2, dTru_bl, dTru_lst, dTru_int, dTru_non, wp_mt, wp_get, wp_isi, wp_fld, wp_sl, wp_oNone, wp_oSome, wp_tBool, wp_tNot, wp_tAnd2, wp_tOr2, wp_tAll, wp_gSlot, wp_gsNil, wp_gsCons, wp_gTup, wp_gSub, wp_iAny, wp_iSeq, wp_iTup, wp_iStr, wp_iRange1, wp_iRange2, wp_iZip, wS_fld, wp_make, seqQ, rtQ, turnQ, List.getElem?_cons_zero, List.getElem?_cons_succ, List.set_cons_zero, List.set_cons_succ, wipeD, if_true, if_false, Bool.false_eq_true, Bool.true_eq_false, reduceIte, w_add, w_iadd, w_iaddS, w_addS, w_addL, w_addT, w_sub, w_mul, w_mod, w_fdiv, w_pow, w_neg, w_lt, w_le, w_gt, w_ge, w_eqI, w_neI, w_eqT, w_neT, w_isN, w_isnotN, w_isB, w_isNB, w_len, w_lenT, w_int, w_intB, w_abs, w_min, w_max, w_tup, w_lst, w_new, w_list, w_listN, w_ix, w_ixT, w_ixD, w_inT1, w_notinT1, w_inT2, w_notinT2, w_inT3, w_notinT3, w_inT4, w_notinT4, w_inT5, w_notinT5, w_inT6, w_notinT6, w_inT7, w_notinT7, w_inT8, w_notinT8, w_sl1, at_0, at_1, at_2, at_3, at_4, at_5, hasTy_list, hasTy_str, isNonD, flatD, sEq_T, List.all_cons, List.all_nil, List.any_cons, List.any_nil, Bool.and_true, Bool.true_and, Bool.or_false, Bool.or_true, Bool.true_or, Bool.false_or, Bool.not_true, Bool.not_false, List.length_cons, List.length_nil, Nat.zero_add, Nat.reduceAdd, line_eq, true_and, and_true, String.reduceBEq, Int.reduceBEq, decide_true, decide_false, Int.reduceLT, Int.reduceLE, beq_self_eq_true, Nat.reduceLeDiff, wS_raise, wp_xinit, wp_sets0, wp_sets1, wp_fs, wp_xf, wp_xis, hdQ, setO, List.map_cons, List.map_nil, tabF_cons, tabF_nil, lview, w_inU1, w_inU2, w_inU3, w_inU4, w_notinU1, w_notinU2, w_notinU3, w_notinU4, wp_lcN, and_self, or_true, true_or, or_false, false_or, not_true_eq_false, not_false_eq_true, ne_eq, reduceCtorEq, List.cons.injEq, Bool.and_false, Bool.false_and, Bool.and_self, Bool.or_self, List.mem_cons, List.not_mem_nil, isSub, ty_tup, ty_lst, ty_int, ty_bl, ty_str, ty_non, nb, Bool.and_eq_true, Bool.or_eq_true, decide_eq_true_eq, beq_iff_eq, Int.cast_ofNat_Int, List.lookup_cons, List.lookup_nil, str_beq, insOf, not_true_eq_false, gok0]
    refine deck_wp (by decide) (by decide) hl fun s0 h0 => ?_
    try simp only [wp_rep, wp_meth, w_lenSo, w_tupT, w_tupL, List.length_map, wp_ok, wp_bad, wp_bind, wS_ok, wS_bad, wS_cons, wS_nil, wS_pass, wS_break, wS_cont, wS_never, wS_set, wS_expr, wS_ret, wS_retN, wS_if, wS_asg, wS_aug, wS_for, wp_lc, wp_m1, wp_m2, wp_mN, wp_aNil, wp_aCons, wp_mC, wp_var, wp_if2, wp_and2, wp_or2, wp_not, wp_chain2, isBl_bl, andK_p, orK_p, andV_p, orV_p, iteK_p, andK_t, andK_f, orK_t, orK_f, andV_t, andV_f, orV_t, orV_f, iteK_t, iteK_f, wp_tTru2, dTru_bl, dTru_lst, dTru_int, dTru_non, wp_mt, wp_get, wp_isi, wp_fld, wp_sl, wp_oNone, wp_oSome, wp_tBool, wp_tNot, wp_tAnd2, wp_tOr2, wp_tAll, wp_gSlot, wp_gsNil, wp_gsCons, wp_gTup, wp_gSub, wp_iAny, wp_iSeq, wp_iTup, wp_iStr, wp_iRange1, wp_iRange2, wp_iZip, wS_fld, wp_make, seqQ, rtQ, turnQ, List.getElem?_cons_zero, List.getElem?_cons_succ, List.set_cons_zero, List.set_cons_succ, wipeD, if_true, if_false, Bool.false_eq_true, Bool.true_eq_false, reduceIte, w_add, w_iadd, w_iaddS, w_addS, w_addL, w_addT, w_sub, w_mul, w_mod, w_fdiv, w_pow, w_neg, w_lt, w_le, w_gt, w_ge, w_eqI, w_neI, w_eqT, w_neT, w_isN, w_isnotN, w_isB, w_isNB, w_len, w_lenT, w_int, w_intB, w_abs, w_min, w_max, w_tup, w_lst, w_new, w_list, w_listN, w_ix, w_ixT, w_ixD, w_inT1, w_notinT1, w_inT2, w_notinT2, w_inT3, w_notinT3, w_inT4, w_notinT4, w_inT5, w_notinT5, w_inT6, w_notinT6, w_inT7, w_notinT7, w_inT8, w_notinT8, w_sl1, at_0, at_1, at_2, at_3, at_4, at_5, hasTy_list, hasTy_str, isNonD, flatD, sEq_T, List.all_cons, List.all_nil, List.any_cons, List.any_nil, Bool.and_true, Bool.true_and, Bool.or_false, Bool.or_true, Bool.true_or, Bool.false_or, Bool.not_true, Bool.not_false, List.length_cons, List.length_nil, Nat.zero_add, Nat.reduceAdd, line_eq, true_and, and_true, String.reduceBEq, Int.reduceBEq, decide_true, decide_false, Int.reduceLT, Int.reduceLE, beq_self_eq_true, Nat.reduceLeDiff, wS_raise, wp_xinit, wp_sets0, wp_sets1, wp_fs, wp_xf, wp_xis, hdQ, setO, List.map_cons, List.map_nil, tabF_cons, tabF_nil, lview, w_inU1, w_inU2, w_inU3, w_inU4, w_notinU1, w_notinU2, w_notinU3, w_notinU4, wp_lcN, and_self, or_true, true_or, or_false, false_or, not_true_eq_false, not_false_eq_true, ne_eq, reduceCtorEq, List.cons.injEq, Bool.and_false, Bool.false_and, Bool.and_self, Bool.or_self, List.mem_cons, List.not_mem_nil, isSub, ty_tup, ty_lst, ty_int, ty_bl, ty_str, ty_non, nb, Bool.and_eq_true, Bool.or_eq_true, decide_eq_true_eq, beq_iff_eq, Int.cast_ofNat_Int, List.lookup_cons, List.lookup_nil, str_beq, insOf, not_true_eq_false, gok0]
    refine recipe_wp h0 fun l body fin s1 hll hbo hfi h1 => ?_
    try simp only [wp_rep, wp_meth, w_lenSo, w_tupT, w_tupL, List.length_map, wp_ok, wp_bad, wp_bind, wS_ok, wS_bad, wS_cons, wS_nil, wS_pass, wS_break, wS_cont, wS_never, wS_set, wS_expr, wS_ret, wS_retN, wS_if, wS_asg, wS_aug, wS_for, wp_lc, wp_m1, wp_m2, wp_mN, wp_aNil, wp_aCons, wp_mC, wp_var, wp_if2, wp_and2, wp_or2, wp_not, wp_chain2, isBl_bl, andK_p, orK_p, andV_p, orV_p, iteK_p, andK_t, andK_f, orK_t, orK_f, andV_t, andV_f, orV_t, orV_f, iteK_t, iteK_f, wp_tTru2, dTru_bl, dTru_lst, dTru_int, dTru_non, wp_mt, wp_get, wp_isi, wp_fld, wp_sl, wp_oNone, wp_oSome, wp_tBool, wp_tNot, wp_tAnd2, wp_tOr2, wp_tAll, wp_gSlot, wp_gsNil, wp_gsCons, wp_gTup, wp_gSub, wp_iAny, wp_iSeq, wp_iTup, wp_iStr, wp_iRange1, wp_iRange2, wp_iZip, wS_fld, wp_make, seqQ, rtQ, turnQ, List.getElem?_cons_zero, List.getElem?_cons_succ, List.set_cons_zero, List.set_cons_succ, wipeD, if_true, if_false, Bool.false_eq_true, Bool.true_eq_false, reduceIte, w_add, w_iadd, w_iaddS, w_addS, w_addL, w_addT, w_sub, w_mul, w_mod, w_fdiv, w_pow, w_neg, w_lt, w_le, w_gt, w_ge, w_eqI, w_neI, w_eqT, w_neT, w_isN, w_isnotN, w_isB, w_isNB, w_len, w_lenT, w_int, w_intB, w_abs, w_min, w_max, w_tup, w_lst, w_new, w_list, w_listN, w_ix, w_ixT, w_ixD, w_inT1, w_notinT1, w_inT2, w_notinT2, w_inT3, w_notinT3, w_inT4, w_notinT4, w_inT5, w_notinT5, w_inT6, w_notinT6, w_inT7, w_notinT7, w_inT8, w_notinT8, w_sl1, at_0, at_1, at_2, at_3, at_4, at_5, hasTy_list, hasTy_str, isNonD, flatD, sEq_T, List.all_cons, List.all_nil, List.any_cons, List.any_nil, Bool.and_true, Bool.true_and, Bool.or_false, Bool.or_true, Bool.true_or, Bool.false_or, Bool.not_true, Bool.not_false, List.length_cons, List.length_nil, Nat.zero_add, Nat.reduceAdd, line_eq, true_and, and_true, String.reduceBEq, Int.reduceBEq, decide_true, decide_false, Int.reduceLT, Int.reduceLE, beq_self_eq_true, Nat.reduceLeDiff, wS_raise, wp_xinit, wp_sets0, wp_sets1, wp_fs, wp_xf, wp_xis, hdQ, setO, List.map_cons, List.map_nil, tabF_cons, tabF_nil, lview, w_inU1, w_inU2, w_inU3, w_inU4, w_notinU1, w_notinU2, w_notinU3, w_notinU4, wp_lcN, and_self, or_true, true_or, or_false, false_or, not_true_eq_false, not_false_eq_true, ne_eq, reduceCtorEq, List.cons.injEq, Bool.and_false, Bool.false_and, Bool.and_self, Bool.or_self, List.mem_cons, List.not_mem_nil, isSub, ty_tup, ty_lst, ty_int, ty_bl, ty_str, ty_non, nb, Bool.and_eq_true, Bool.or_eq_true, decide_eq_true_eq, beq_iff_eq, Int.cast_ofNat_Int, List.lookup_cons, List.lookup_nil, str_beq, insOf, not_true_eq_false, gok0]
    obtain ⟨L, rfl, hL⟩ := h1
    try simp only [List.append_assoc, List.cons_append, List.nil_append, List.length_append, List.length_cons, List.length_nil, Nat.zero_add, Nat.add_zero, Nat.add_assoc, Nat.reduceAdd, e_at0, e_at1, e_at2, e_at3, e_set0, e_set1, e_set2, e_set3, putFD, ofS_inj, String.reduceEq, if_true, if_false, reduceIte, true_and, and_true, and_self, Nat.reduceLT, List.map_nil]
    try simp only [wp_rep, wp_meth, w_lenSo, w_tupT, w_tupL, List.length_map, wp_ok, wp_bad, wp_bind, wS_ok, wS_bad, wS_cons, wS_nil, wS_pass, wS_break, wS_cont, wS_never, wS_set, wS_expr, wS_ret, wS_retN, wS_if, wS_asg, wS_aug, wS_for, wp_lc, wp_m1, wp_m2, wp_mN, wp_aNil, wp_aCons, wp_mC, wp_var, wp_if2, wp_and2, wp_or2, wp_not, wp_chain2, isBl_bl, andK_p, orK_p, andV_p, orV_p, iteK_p, andK_t, andK_f, orK_t, orK_f, andV_t, andV_f, orV_t, orV_f, iteK_t, iteK_f, wp_tTru2, dTru_bl, dTru_lst, dTru_int, dTru_non, wp_mt, wp_get, wp_isi, wp_fld, wp_sl, wp_oNone, wp_oSome, wp_tBool, wp_tNot, wp_tAnd2, wp_tOr2, wp_tAll, wp_gSlot, wp_gsNil, wp_gsCons, wp_gTup, wp_gSub, wp_iAny, wp_iSeq, wp_iTup, wp_iStr, wp_iRange1, wp_iRange2, wp_iZip, wS_fld, wp_make, seqQ, rtQ, turnQ, List.getElem?_cons_zero, List.getElem?_cons_succ, List.set_cons_zero, List.set_cons_succ, wipeD, if_true, if_false, Bool.false_eq_true, Bool.true_eq_false, reduceIte, w_add, w_iadd, w_iaddS, w_addS, w_addL, w_addT, w_sub, w_mul, w_mod, w_fdiv, w_pow, w_neg, w_lt, w_le, w_gt, w_ge, w_eqI, w_neI, w_eqT, w_neT, w_isN, w_isnotN, w_isB, w_isNB, w_len, w_lenT, w_int, w_intB, w_abs, w_min, w_max, w_tup, w_lst, w_new, w_list, w_listN, w_ix, w_ixT, w_ixD, w_inT1, w_notinT1, w_inT2, w_notinT2, w_inT3, w_notinT3, w_inT4, w_notinT4, w_inT5, w_notinT5, w_inT6, w_notinT6, w_inT7, w_notinT7, w_inT8, w_notinT8, w_sl1, at_0, at_1, at_2, at_3, at_4, at_5, hasTy_list, hasTy_str, isNonD, flatD, sEq_T, List.all_cons, List.all_nil, List.any_cons, List.any_nil, Bool.and_true, Bool.true_and, Bool.or_false, Bool.or_true, Bool.true_or, Bool.false_or, Bool.not_true, Bool.not_false, List.length_cons, List.length_nil, Nat.zero_add, Nat.reduceAdd, line_eq, true_and, and_true, String.reduceBEq, Int.reduceBEq, decide_true, decide_false, Int.reduceLT, Int.reduceLE, beq_self_eq_true, Nat.reduceLeDiff, wS_raise, wp_xinit, wp_sets0, wp_sets1, wp_fs, wp_xf, wp_xis, hdQ, setO, List.map_cons, List.map_nil, tabF_cons, tabF_nil, lview, w_inU1, w_inU2, w_inU3, w_inU4, w_notinU1, w_notinU2, w_notinU3, w_notinU4, wp_lcN, and_self, or_true, true_or, or_false, false_or, not_true_eq_false, not_false_eq_true, ne_eq, reduceCtorEq, List.cons.injEq, Bool.and_false, Bool.false_and, Bool.and_self, Bool.or_self, List.mem_cons, List.not_mem_nil, isSub, ty_tup, ty_lst, ty_int, ty_bl, ty_str, ty_non, nb, Bool.and_eq_true, Bool.or_eq_true, decide_eq_true_eq, beq_iff_eq, Int.cast_ofNat_Int, List.lookup_cons, List.lookup_nil, str_beq, insOf, not_true_eq_false, gok0]
    refine make_wp hll hbo hfi lt_deck ?_
    have h31 := hbo.len
    have g31 := hfi.len
    obtain ⟨d', hd1, hd2⟩ := told60 (k := 8) (d := .lst [.str (tx l), .lst (body.map TO.d), .lst (fin.map TO.d)]) (by
      simp only [plainOk, List.all_cons, List.all_nil, tx_ok, tos_ok, List.length_cons, List.length_nil, List.length_map, Bool.and_true, Bool.true_and, line_eq]
      simp
      omega) (by decide)
    have hp : ∀ {s : S} {Q : D → S → Prop} {E : D → S → Prop}, wp (f_law_plain [.lst [.str (tx l), .lst (body.map TO.d), .lst (fin.map TO.d)]] s) Q E = Q d' s := by
      intro s Q E
      show wp (fn_law_plain 8 _ s) Q E = _
      rw [plain_eq, hd1, wp_ok]
    have heq : ∀ {s : S} {Q : D → S → Prop} {E : D → S → Prop}, wp (dNe d' d' s) Q E = Q (.bl false) s := w_ne_self hd2
    have hl4 := (letr_ok l hll).1
    refine texts_wp ⟨L, rfl, hL⟩ hl4 fun T s2 hT hTl h2 => ?_
    refine ⟨by decide, ?_⟩
    refine wS_forN (I := fun rest ρ s' => ∃ (B F : List TO) (v9 v10 : Option D), Dk s' (tail3 B F) ∧ B.length + rest.length ≤ 100 ∧ F.length + rest.length ≤ 100 ∧ ρ = [some (.lst (ns.map .int)), some (.ref 0), some (.tup [.str (tx l), .lst (body.map TO.d), .lst (fin.map TO.d)]), some (.str (tx l)), some (.lst (body.map TO.d)), some (.lst (fin.map TO.d)), some (.ref 3), some (rcD l body fin), some (.lst (T.map txD)), v9, v10]) ?_ ?_ _ _ _ ⟨body, fin, none, none, h2, by have := hbo.len; simp [rng]; omega, by have := hfi.len; simp [rng]; omega, rfl⟩
    · rintro ρ s3 ⟨B, F, v9, v10, h3, _, _, rfl⟩
      try simp only [wp_rep, wp_meth, w_lenSo, w_tupT, w_tupL, List.length_map, wp_ok, wp_bad, wp_bind, wS_ok, wS_bad, wS_cons, wS_nil, wS_pass, wS_break, wS_cont, wS_never, wS_set, wS_expr, wS_ret, wS_retN, wS_if, wS_asg, wS_aug, wS_for, wp_lc, wp_m1, wp_m2, wp_mN, wp_aNil, wp_aCons, wp_mC, wp_var, wp_if2, wp_and2, wp_or2, wp_not, wp_chain2, isBl_bl, andK_p, orK_p, andV_p, orV_p, iteK_p, andK_t, andK_f, orK_t, orK_f, andV_t, andV_f, orV_t, orV_f, iteK_t, iteK_f, wp_tTru2, dTru_bl, dTru_lst, dTru_int, dTru_non, wp_mt, wp_get, wp_isi, wp_fld, wp_sl, wp_oNone, wp_oSome, wp_tBool, wp_tNot, wp_tAnd2, wp_tOr2, wp_tAll, wp_gSlot, wp_gsNil, wp_gsCons, wp_gTup, wp_gSub, wp_iAny, wp_iSeq, wp_iTup, wp_iStr, wp_iRange1, wp_iRange2, wp_iZip, wS_fld, wp_make, seqQ, rtQ, turnQ, List.getElem?_cons_zero, List.getElem?_cons_succ, List.set_cons_zero, List.set_cons_succ, wipeD, if_true, if_false, Bool.false_eq_true, Bool.true_eq_false, reduceIte, w_add, w_iadd, w_iaddS, w_addS, w_addL, w_addT, w_sub, w_mul, w_mod, w_fdiv, w_pow, w_neg, w_lt, w_le, w_gt, w_ge, w_eqI, w_neI, w_eqT, w_neT, w_isN, w_isnotN, w_isB, w_isNB, w_len, w_lenT, w_int, w_intB, w_abs, w_min, w_max, w_tup, w_lst, w_new, w_list, w_listN, w_ix, w_ixT, w_ixD, w_inT1, w_notinT1, w_inT2, w_notinT2, w_inT3, w_notinT3, w_inT4, w_notinT4, w_inT5, w_notinT5, w_inT6, w_notinT6, w_inT7, w_notinT7, w_inT8, w_notinT8, w_sl1, at_0, at_1, at_2, at_3, at_4, at_5, hasTy_list, hasTy_str, isNonD, flatD, sEq_T, List.all_cons, List.all_nil, List.any_cons, List.any_nil, Bool.and_true, Bool.true_and, Bool.or_false, Bool.or_true, Bool.true_or, Bool.false_or, Bool.not_true, Bool.not_false, List.length_cons, List.length_nil, Nat.zero_add, Nat.reduceAdd, line_eq, true_and, and_true, String.reduceBEq, Int.reduceBEq, decide_true, decide_false, Int.reduceLT, Int.reduceLE, beq_self_eq_true, Nat.reduceLeDiff, wS_raise, wp_xinit, wp_sets0, wp_sets1, wp_fs, wp_xf, wp_xis, hdQ, setO, List.map_cons, List.map_nil, tabF_cons, tabF_nil, lview, w_inU1, w_inU2, w_inU3, w_inU4, w_notinU1, w_notinU2, w_notinU3, w_notinU4, wp_lcN, and_self, or_true, true_or, or_false, false_or, not_true_eq_false, not_false_eq_true, ne_eq, reduceCtorEq, List.cons.injEq, Bool.and_false, Bool.false_and, Bool.and_self, Bool.or_self, List.mem_cons, List.not_mem_nil, isSub, ty_tup, ty_lst, ty_int, ty_bl, ty_str, ty_non, nb, Bool.and_eq_true, Bool.or_eq_true, decide_eq_true_eq, beq_iff_eq, Int.cast_ofNat_Int, List.lookup_cons, List.lookup_nil, str_beq, insOf, not_true_eq_false, gok0]
    · rintro x rest ρ s3 ⟨B, F, v9, v10, ⟨L3, rfl, hL3⟩, hB, hF, rfl⟩
      simp only [List.length_cons] at hB hF
      try simp only [wp_rep, wp_meth, w_lenSo, w_tupT, w_tupL, List.length_map, wp_ok, wp_bad, wp_bind, wS_ok, wS_bad, wS_cons, wS_nil, wS_pass, wS_break, wS_cont, wS_never, wS_set, wS_expr, wS_ret, wS_retN, wS_if, wS_asg, wS_aug, wS_for, wp_lc, wp_m1, wp_m2, wp_mN, wp_aNil, wp_aCons, wp_mC, wp_var, wp_if2, wp_and2, wp_or2, wp_not, wp_chain2, isBl_bl, andK_p, orK_p, andV_p, orV_p, iteK_p, andK_t, andK_f, orK_t, orK_f, andV_t, andV_f, orV_t, orV_f, iteK_t, iteK_f, wp_tTru2, dTru_bl, dTru_lst, dTru_int, dTru_non, wp_mt, wp_get, wp_isi, wp_fld, wp_sl, wp_oNone, wp_oSome, wp_tBool, wp_tNot, wp_tAnd2, wp_tOr2, wp_tAll, wp_gSlot, wp_gsNil, wp_gsCons, wp_gTup, wp_gSub, wp_iAny, wp_iSeq, wp_iTup, wp_iStr, wp_iRange1, wp_iRange2, wp_iZip, wS_fld, wp_make, seqQ, rtQ, turnQ, List.getElem?_cons_zero, List.getElem?_cons_succ, List.set_cons_zero, List.set_cons_succ, wipeD, if_true, if_false, Bool.false_eq_true, Bool.true_eq_false, reduceIte, w_add, w_iadd, w_iaddS, w_addS, w_addL, w_addT, w_sub, w_mul, w_mod, w_fdiv, w_pow, w_neg, w_lt, w_le, w_gt, w_ge, w_eqI, w_neI, w_eqT, w_neT, w_isN, w_isnotN, w_isB, w_isNB, w_len, w_lenT, w_int, w_intB, w_abs, w_min, w_max, w_tup, w_lst, w_new, w_list, w_listN, w_ix, w_ixT, w_ixD, w_inT1, w_notinT1, w_inT2, w_notinT2, w_inT3, w_notinT3, w_inT4, w_notinT4, w_inT5, w_notinT5, w_inT6, w_notinT6, w_inT7, w_notinT7, w_inT8, w_notinT8, w_sl1, at_0, at_1, at_2, at_3, at_4, at_5, hasTy_list, hasTy_str, isNonD, flatD, sEq_T, List.all_cons, List.all_nil, List.any_cons, List.any_nil, Bool.and_true, Bool.true_and, Bool.or_false, Bool.or_true, Bool.true_or, Bool.false_or, Bool.not_true, Bool.not_false, List.length_cons, List.length_nil, Nat.zero_add, Nat.reduceAdd, line_eq, true_and, and_true, String.reduceBEq, Int.reduceBEq, decide_true, decide_false, Int.reduceLT, Int.reduceLE, beq_self_eq_true, Nat.reduceLeDiff, wS_raise, wp_xinit, wp_sets0, wp_sets1, wp_fs, wp_xf, wp_xis, hdQ, setO, List.map_cons, List.map_nil, tabF_cons, tabF_nil, lview, w_inU1, w_inU2, w_inU3, w_inU4, w_notinU1, w_notinU2, w_notinU3, w_notinU4, wp_lcN, and_self, or_true, true_or, or_false, false_or, not_true_eq_false, not_false_eq_true, ne_eq, reduceCtorEq, List.cons.injEq, Bool.and_false, Bool.false_and, Bool.and_self, Bool.or_self, List.mem_cons, List.not_mem_nil, isSub, ty_tup, ty_lst, ty_int, ty_bl, ty_str, ty_non, nb, Bool.and_eq_true, Bool.or_eq_true, decide_eq_true_eq, beq_iff_eq, Int.cast_ofNat_Int, List.lookup_cons, List.lookup_nil, str_beq, insOf, not_true_eq_false, gok0]
      rw [wS_cut]
      unfold rcD
      try simp only [wp_rep, wp_meth, w_lenSo, w_tupT, w_tupL, List.length_map, wp_ok, wp_bad, wp_bind, wS_ok, wS_bad, wS_cons, wS_nil, wS_pass, wS_break, wS_cont, wS_never, wS_set, wS_expr, wS_ret, wS_retN, wS_if, wS_asg, wS_aug, wS_for, wp_lc, wp_m1, wp_m2, wp_mN, wp_aNil, wp_aCons, wp_mC, wp_var, wp_if2, wp_and2, wp_or2, wp_not, wp_chain2, isBl_bl, andK_p, orK_p, andV_p, orV_p, iteK_p, andK_t, andK_f, orK_t, orK_f, andV_t, andV_f, orV_t, orV_f, iteK_t, iteK_f, wp_tTru2, dTru_bl, dTru_lst, dTru_int, dTru_non, wp_mt, wp_get, wp_isi, wp_fld, wp_sl, wp_oNone, wp_oSome, wp_tBool, wp_tNot, wp_tAnd2, wp_tOr2, wp_tAll, wp_gSlot, wp_gsNil, wp_gsCons, wp_gTup, wp_gSub, wp_iAny, wp_iSeq, wp_iTup, wp_iStr, wp_iRange1, wp_iRange2, wp_iZip, wS_fld, wp_make, seqQ, rtQ, turnQ, List.getElem?_cons_zero, List.getElem?_cons_succ, List.set_cons_zero, List.set_cons_succ, wipeD, if_true, if_false, Bool.false_eq_true, Bool.true_eq_false, reduceIte, w_add, w_iadd, w_iaddS, w_addS, w_addL, w_addT, w_sub, w_mul, w_mod, w_fdiv, w_pow, w_neg, w_lt, w_le, w_gt, w_ge, w_eqI, w_neI, w_eqT, w_neT, w_isN, w_isnotN, w_isB, w_isNB, w_len, w_lenT, w_int, w_intB, w_abs, w_min, w_max, w_tup, w_lst, w_new, w_list, w_listN, w_ix, w_ixT, w_ixD, w_inT1, w_notinT1, w_inT2, w_notinT2, w_inT3, w_notinT3, w_inT4, w_notinT4, w_inT5, w_notinT5, w_inT6, w_notinT6, w_inT7, w_notinT7, w_inT8, w_notinT8, w_sl1, at_0, at_1, at_2, at_3, at_4, at_5, hasTy_list, hasTy_str, isNonD, flatD, sEq_T, List.all_cons, List.all_nil, List.any_cons, List.any_nil, Bool.and_true, Bool.true_and, Bool.or_false, Bool.or_true, Bool.true_or, Bool.false_or, Bool.not_true, Bool.not_false, List.length_cons, List.length_nil, Nat.zero_add, Nat.reduceAdd, line_eq, true_and, and_true, String.reduceBEq, Int.reduceBEq, decide_true, decide_false, Int.reduceLT, Int.reduceLE, beq_self_eq_true, Nat.reduceLeDiff, wS_raise, wp_xinit, wp_sets0, wp_sets1, wp_fs, wp_xf, wp_xis, hdQ, setO, List.map_cons, List.map_nil, tabF_cons, tabF_nil, lview, w_inU1, w_inU2, w_inU3, w_inU4, w_notinU1, w_notinU2, w_notinU3, w_notinU4, wp_lcN, and_self, or_true, true_or, or_false, false_or, not_true_eq_false, not_false_eq_true, ne_eq, reduceCtorEq, List.cons.injEq, Bool.and_false, Bool.false_and, Bool.and_self, Bool.or_self, List.mem_cons, List.not_mem_nil, isSub, ty_tup, ty_lst, ty_int, ty_bl, ty_str, ty_non, nb, Bool.and_eq_true, Bool.or_eq_true, decide_eq_true_eq, beq_iff_eq, Int.cast_ofNat_Int, List.lookup_cons, List.lookup_nil, str_beq, insOf, not_true_eq_false, gok0]
      rw [hp, hp, heq]
      try simp only [wp_rep, wp_meth, w_lenSo, w_tupT, w_tupL, List.length_map, wp_ok, wp_bad, wp_bind, wS_ok, wS_bad, wS_cons, wS_nil, wS_pass, wS_break, wS_cont, wS_never, wS_set, wS_expr, wS_ret, wS_retN, wS_if, wS_asg, wS_aug, wS_for, wp_lc, wp_m1, wp_m2, wp_mN, wp_aNil, wp_aCons, wp_mC, wp_var, wp_if2, wp_and2, wp_or2, wp_not, wp_chain2, isBl_bl, andK_p, orK_p, andV_p, orV_p, iteK_p, andK_t, andK_f, orK_t, orK_f, andV_t, andV_f, orV_t, orV_f, iteK_t, iteK_f, wp_tTru2, dTru_bl, dTru_lst, dTru_int, dTru_non, wp_mt, wp_get, wp_isi, wp_fld, wp_sl, wp_oNone, wp_oSome, wp_tBool, wp_tNot, wp_tAnd2, wp_tOr2, wp_tAll, wp_gSlot, wp_gsNil, wp_gsCons, wp_gTup, wp_gSub, wp_iAny, wp_iSeq, wp_iTup, wp_iStr, wp_iRange1, wp_iRange2, wp_iZip, wS_fld, wp_make, seqQ, rtQ, turnQ, List.getElem?_cons_zero, List.getElem?_cons_succ, List.set_cons_zero, List.set_cons_succ, wipeD, if_true, if_false, Bool.false_eq_true, Bool.true_eq_false, reduceIte, w_add, w_iadd, w_iaddS, w_addS, w_addL, w_addT, w_sub, w_mul, w_mod, w_fdiv, w_pow, w_neg, w_lt, w_le, w_gt, w_ge, w_eqI, w_neI, w_eqT, w_neT, w_isN, w_isnotN, w_isB, w_isNB, w_len, w_lenT, w_int, w_intB, w_abs, w_min, w_max, w_tup, w_lst, w_new, w_list, w_listN, w_ix, w_ixT, w_ixD, w_inT1, w_notinT1, w_inT2, w_notinT2, w_inT3, w_notinT3, w_inT4, w_notinT4, w_inT5, w_notinT5, w_inT6, w_notinT6, w_inT7, w_notinT7, w_inT8, w_notinT8, w_sl1, at_0, at_1, at_2, at_3, at_4, at_5, hasTy_list, hasTy_str, isNonD, flatD, sEq_T, List.all_cons, List.all_nil, List.any_cons, List.any_nil, Bool.and_true, Bool.true_and, Bool.or_false, Bool.or_true, Bool.true_or, Bool.false_or, Bool.not_true, Bool.not_false, List.length_cons, List.length_nil, Nat.zero_add, Nat.reduceAdd, line_eq, true_and, and_true, String.reduceBEq, Int.reduceBEq, decide_true, decide_false, Int.reduceLT, Int.reduceLE, beq_self_eq_true, Nat.reduceLeDiff, wS_raise, wp_xinit, wp_sets0, wp_sets1, wp_fs, wp_xf, wp_xis, hdQ, setO, List.map_cons, List.map_nil, tabF_cons, tabF_nil, lview, w_inU1, w_inU2, w_inU3, w_inU4, w_notinU1, w_notinU2, w_notinU3, w_notinU4, wp_lcN, and_self, or_true, true_or, or_false, false_or, not_true_eq_false, not_false_eq_true, ne_eq, reduceCtorEq, List.cons.injEq, Bool.and_false, Bool.false_and, Bool.and_self, Bool.or_self, List.mem_cons, List.not_mem_nil, isSub, ty_tup, ty_lst, ty_int, ty_bl, ty_str, ty_non, nb, Bool.and_eq_true, Bool.or_eq_true, decide_eq_true_eq, beq_iff_eq, Int.cast_ofNat_Int, List.lookup_cons, List.lookup_nil, str_beq, insOf, not_true_eq_false, gok0]
      refine wS_forAll (P := fun _ => true) (d := .bl false) (R := fun ρ => ∃ v10, ρ = [some (.lst (ns.map .int)), some (.ref 0), some (.tup [.str (tx l), .lst (body.map TO.d), .lst (fin.map TO.d)]), some (.str (tx l)), some (.lst (body.map TO.d)), some (.lst (fin.map TO.d)), some (.ref 3), some (rcD l body fin), some (.lst (T.map txD)), some x, v10]) (gd := none) trivial ?_ _ ⟨v10, rfl⟩ (fun _ ρ' hr => ?_) (fun h => by simp at h)
      · rintro y hy ρ Q' ⟨v10, rfl⟩ _ hk
        obtain ⟨d2, hd3, hd4⟩ := told60 (k := 8) (d := optT (img l body fin y st0)) (optT_ok _) (by decide)
        have hp2 : ∀ {s : S} {Q : D → S → Prop} {E : D → S → Prop}, wp (f_law_plain [optT (img l body fin y st0)] s) Q E = Q d2 s := by
          intro s Q E
          show wp (fn_law_plain 8 _ s) Q E = _
          rw [plain_eq, hd3, wp_ok]
        try simp only [wp_rep, wp_meth, w_lenSo, w_tupT, w_tupL, List.length_map, wp_ok, wp_bad, wp_bind, wS_ok, wS_bad, wS_cons, wS_nil, wS_pass, wS_break, wS_cont, wS_never, wS_set, wS_expr, wS_ret, wS_retN, wS_if, wS_asg, wS_aug, wS_for, wp_lc, wp_m1, wp_m2, wp_mN, wp_aNil, wp_aCons, wp_mC, wp_var, wp_if2, wp_and2, wp_or2, wp_not, wp_chain2, isBl_bl, andK_p, orK_p, andV_p, orV_p, iteK_p, andK_t, andK_f, orK_t, orK_f, andV_t, andV_f, orV_t, orV_f, iteK_t, iteK_f, wp_tTru2, dTru_bl, dTru_lst, dTru_int, dTru_non, wp_mt, wp_get, wp_isi, wp_fld, wp_sl, wp_oNone, wp_oSome, wp_tBool, wp_tNot, wp_tAnd2, wp_tOr2, wp_tAll, wp_gSlot, wp_gsNil, wp_gsCons, wp_gTup, wp_gSub, wp_iAny, wp_iSeq, wp_iTup, wp_iStr, wp_iRange1, wp_iRange2, wp_iZip, wS_fld, wp_make, seqQ, rtQ, turnQ, List.getElem?_cons_zero, List.getElem?_cons_succ, List.set_cons_zero, List.set_cons_succ, wipeD, if_true, if_false, Bool.false_eq_true, Bool.true_eq_false, reduceIte, w_add, w_iadd, w_iaddS, w_addS, w_addL, w_addT, w_sub, w_mul, w_mod, w_fdiv, w_pow, w_neg, w_lt, w_le, w_gt, w_ge, w_eqI, w_neI, w_eqT, w_neT, w_isN, w_isnotN, w_isB, w_isNB, w_len, w_lenT, w_int, w_intB, w_abs, w_min, w_max, w_tup, w_lst, w_new, w_list, w_listN, w_ix, w_ixT, w_ixD, w_inT1, w_notinT1, w_inT2, w_notinT2, w_inT3, w_notinT3, w_inT4, w_notinT4, w_inT5, w_notinT5, w_inT6, w_notinT6, w_inT7, w_notinT7, w_inT8, w_notinT8, w_sl1, at_0, at_1, at_2, at_3, at_4, at_5, hasTy_list, hasTy_str, isNonD, flatD, sEq_T, List.all_cons, List.all_nil, List.any_cons, List.any_nil, Bool.and_true, Bool.true_and, Bool.or_false, Bool.or_true, Bool.true_or, Bool.false_or, Bool.not_true, Bool.not_false, List.length_cons, List.length_nil, Nat.zero_add, Nat.reduceAdd, line_eq, true_and, and_true, String.reduceBEq, Int.reduceBEq, decide_true, decide_false, Int.reduceLT, Int.reduceLE, beq_self_eq_true, Nat.reduceLeDiff, wS_raise, wp_xinit, wp_sets0, wp_sets1, wp_fs, wp_xf, wp_xis, hdQ, setO, List.map_cons, List.map_nil, tabF_cons, tabF_nil, lview, w_inU1, w_inU2, w_inU3, w_inU4, w_notinU1, w_notinU2, w_notinU3, w_notinU4, wp_lcN, and_self, or_true, true_or, or_false, false_or, not_true_eq_false, not_false_eq_true, ne_eq, reduceCtorEq, List.cons.injEq, Bool.and_false, Bool.false_and, Bool.and_self, Bool.or_self, List.mem_cons, List.not_mem_nil, isSub, ty_tup, ty_lst, ty_int, ty_bl, ty_str, ty_non, nb, Bool.and_eq_true, Bool.or_eq_true, decide_eq_true_eq, beq_iff_eq, Int.cast_ofNat_Int, List.lookup_cons, List.lookup_nil, str_beq, insOf, not_true_eq_false, gok0]
        refine image_wp hbo hfi low_tos (hT y hy) ?_
        rw [hp2]
        refine wp_up (spelt_wp hbo hfi low_tos (hT y hy) ?_)
        rw [hp2, w_ne_self hd4]
        try simp only [wp_rep, wp_meth, w_lenSo, w_tupT, w_tupL, List.length_map, wp_ok, wp_bad, wp_bind, wS_ok, wS_bad, wS_cons, wS_nil, wS_pass, wS_break, wS_cont, wS_never, wS_set, wS_expr, wS_ret, wS_retN, wS_if, wS_asg, wS_aug, wS_for, wp_lc, wp_m1, wp_m2, wp_mN, wp_aNil, wp_aCons, wp_mC, wp_var, wp_if2, wp_and2, wp_or2, wp_not, wp_chain2, isBl_bl, andK_p, orK_p, andV_p, orV_p, iteK_p, andK_t, andK_f, orK_t, orK_f, andV_t, andV_f, orV_t, orV_f, iteK_t, iteK_f, wp_tTru2, dTru_bl, dTru_lst, dTru_int, dTru_non, wp_mt, wp_get, wp_isi, wp_fld, wp_sl, wp_oNone, wp_oSome, wp_tBool, wp_tNot, wp_tAnd2, wp_tOr2, wp_tAll, wp_gSlot, wp_gsNil, wp_gsCons, wp_gTup, wp_gSub, wp_iAny, wp_iSeq, wp_iTup, wp_iStr, wp_iRange1, wp_iRange2, wp_iZip, wS_fld, wp_make, seqQ, rtQ, turnQ, List.getElem?_cons_zero, List.getElem?_cons_succ, List.set_cons_zero, List.set_cons_succ, wipeD, if_true, if_false, Bool.false_eq_true, Bool.true_eq_false, reduceIte, w_add, w_iadd, w_iaddS, w_addS, w_addL, w_addT, w_sub, w_mul, w_mod, w_fdiv, w_pow, w_neg, w_lt, w_le, w_gt, w_ge, w_eqI, w_neI, w_eqT, w_neT, w_isN, w_isnotN, w_isB, w_isNB, w_len, w_lenT, w_int, w_intB, w_abs, w_min, w_max, w_tup, w_lst, w_new, w_list, w_listN, w_ix, w_ixT, w_ixD, w_inT1, w_notinT1, w_inT2, w_notinT2, w_inT3, w_notinT3, w_inT4, w_notinT4, w_inT5, w_notinT5, w_inT6, w_notinT6, w_inT7, w_notinT7, w_inT8, w_notinT8, w_sl1, at_0, at_1, at_2, at_3, at_4, at_5, hasTy_list, hasTy_str, isNonD, flatD, sEq_T, List.all_cons, List.all_nil, List.any_cons, List.any_nil, Bool.and_true, Bool.true_and, Bool.or_false, Bool.or_true, Bool.true_or, Bool.false_or, Bool.not_true, Bool.not_false, List.length_cons, List.length_nil, Nat.zero_add, Nat.reduceAdd, line_eq, true_and, and_true, String.reduceBEq, Int.reduceBEq, decide_true, decide_false, Int.reduceLT, Int.reduceLE, beq_self_eq_true, Nat.reduceLeDiff, wS_raise, wp_xinit, wp_sets0, wp_sets1, wp_fs, wp_xf, wp_xis, hdQ, setO, List.map_cons, List.map_nil, tabF_cons, tabF_nil, lview, w_inU1, w_inU2, w_inU3, w_inU4, w_notinU1, w_notinU2, w_notinU3, w_notinU4, wp_lcN, and_self, or_true, true_or, or_false, false_or, not_true_eq_false, not_false_eq_true, ne_eq, reduceCtorEq, List.cons.injEq, Bool.and_false, Bool.false_and, Bool.and_self, Bool.or_self, List.mem_cons, List.not_mem_nil, isSub, ty_tup, ty_lst, ty_int, ty_bl, ty_str, ty_non, nb, Bool.and_eq_true, Bool.or_eq_true, decide_eq_true_eq, beq_iff_eq, Int.cast_ofNat_Int, List.lookup_cons, List.lookup_nil, str_beq, insOf, not_true_eq_false, gok0]
        exact hk rfl _ ⟨_, rfl⟩
      · obtain ⟨v10, rfl⟩ := hr
        try simp only [wp_rep, wp_meth, w_lenSo, w_tupT, w_tupL, List.length_map, wp_ok, wp_bad, wp_bind, wS_ok, wS_bad, wS_cons, wS_nil, wS_pass, wS_break, wS_cont, wS_never, wS_set, wS_expr, wS_ret, wS_retN, wS_if, wS_asg, wS_aug, wS_for, wp_lc, wp_m1, wp_m2, wp_mN, wp_aNil, wp_aCons, wp_mC, wp_var, wp_if2, wp_and2, wp_or2, wp_not, wp_chain2, isBl_bl, andK_p, orK_p, andV_p, orV_p, iteK_p, andK_t, andK_f, orK_t, orK_f, andV_t, andV_f, orV_t, orV_f, iteK_t, iteK_f, wp_tTru2, dTru_bl, dTru_lst, dTru_int, dTru_non, wp_mt, wp_get, wp_isi, wp_fld, wp_sl, wp_oNone, wp_oSome, wp_tBool, wp_tNot, wp_tAnd2, wp_tOr2, wp_tAll, wp_gSlot, wp_gsNil, wp_gsCons, wp_gTup, wp_gSub, wp_iAny, wp_iSeq, wp_iTup, wp_iStr, wp_iRange1, wp_iRange2, wp_iZip, wS_fld, wp_make, seqQ, rtQ, turnQ, List.getElem?_cons_zero, List.getElem?_cons_succ, List.set_cons_zero, List.set_cons_succ, wipeD, if_true, if_false, Bool.false_eq_true, Bool.true_eq_false, reduceIte, w_add, w_iadd, w_iaddS, w_addS, w_addL, w_addT, w_sub, w_mul, w_mod, w_fdiv, w_pow, w_neg, w_lt, w_le, w_gt, w_ge, w_eqI, w_neI, w_eqT, w_neT, w_isN, w_isnotN, w_isB, w_isNB, w_len, w_lenT, w_int, w_intB, w_abs, w_min, w_max, w_tup, w_lst, w_new, w_list, w_listN, w_ix, w_ixT, w_ixD, w_inT1, w_notinT1, w_inT2, w_notinT2, w_inT3, w_notinT3, w_inT4, w_notinT4, w_inT5, w_notinT5, w_inT6, w_notinT6, w_inT7, w_notinT7, w_inT8, w_notinT8, w_sl1, at_0, at_1, at_2, at_3, at_4, at_5, hasTy_list, hasTy_str, isNonD, flatD, sEq_T, List.all_cons, List.all_nil, List.any_cons, List.any_nil, Bool.and_true, Bool.true_and, Bool.or_false, Bool.or_true, Bool.true_or, Bool.false_or, Bool.not_true, Bool.not_false, List.length_cons, List.length_nil, Nat.zero_add, Nat.reduceAdd, line_eq, true_and, and_true, String.reduceBEq, Int.reduceBEq, decide_true, decide_false, Int.reduceLT, Int.reduceLE, beq_self_eq_true, Nat.reduceLeDiff, wS_raise, wp_xinit, wp_sets0, wp_sets1, wp_fs, wp_xf, wp_xis, hdQ, setO, List.map_cons, List.map_nil, tabF_cons, tabF_nil, lview, w_inU1, w_inU2, w_inU3, w_inU4, w_notinU1, w_notinU2, w_notinU3, w_notinU4, wp_lcN, and_self, or_true, true_or, or_false, false_or, not_true_eq_false, not_false_eq_true, ne_eq, reduceCtorEq, List.cons.injEq, Bool.and_false, Bool.false_and, Bool.and_self, Bool.or_self, List.mem_cons, List.not_mem_nil, isSub, ty_tup, ty_lst, ty_int, ty_bl, ty_str, ty_non, nb, Bool.and_eq_true, Bool.or_eq_true, decide_eq_true_eq, beq_iff_eq, Int.cast_ofNat_Int, List.lookup_cons, List.lookup_nil, str_beq, insOf, not_true_eq_false, gok0]
        show wp (dIx (.ref 3) (.int 0) [.lst (L3.map .int), .lst (B.map TO.d), .lst (F.map TO.d), out_]) _ _
        rw [w_ixR (n := 3) (xs := [.ref 1, .ref 2]) rfl, at_0]
        refine ⟨rfl, ?_⟩
        rw [w_appd (n := 1) (xs := B.map TO.d) rfl, line_eq]
        refine ⟨by simp; omega, ?_⟩
        show wp (dIx (.ref 3) (.int 1) [.lst (L3.map .int), .lst (B.map TO.d ++ [TO.lose.d]), .lst (F.map TO.d), out_]) _ _
        rw [w_ixR (n := 3) (xs := [.ref 1, .ref 2]) rfl, at_1]
        refine ⟨rfl, ?_⟩
        rw [w_appd (n := 2) (xs := F.map TO.d) rfl, line_eq]
        refine ⟨by simp; omega, ?_⟩
        have eB : B.map TO.d ++ [TO.lose.d] = (B ++ [TO.lose]).map TO.d := by simp
        have eF : F.map TO.d ++ [TO.lose.d] = (F ++ [TO.lose]).map TO.d := by simp
        rw [eB]
        show stOk 4 [.lst (L3.map .int), .lst ((B ++ [TO.lose]).map TO.d), .lst (F.map TO.d ++ [TO.lose.d]), out_] = true ∧ _
        rw [eF]
        refine ⟨?_, ?_⟩
        · have q0 : ltO 4 (.lst (L3.map .int)) = true := lt_deck
          have q1 : ltO 4 (.lst ((B ++ [TO.lose]).map TO.d)) = true := lt_tos _
          have q2 : ltO 4 (.lst ((F ++ [TO.lose]).map TO.d)) = true := lt_tos _
          have q3 : ltO 4 out_ = true := rfl
          unfold stOk
          simp only [List.length_cons, List.length_nil, List.all_cons, List.all_nil, List.take_succ_cons, List.take_zero, q0, q1, q2, q3]
          rfl
        · have r0 : ltD 4 (.lst (ns.map .int)) = true := lt_deck
          have r1 : ltD 4 (.tup [.str (tx l), .lst (body.map TO.d), .lst (fin.map TO.d)]) = true := by simp [ltD, ltDs, lt_tos]
          have r2 : ltD 4 (.lst (body.map TO.d)) = true := lt_tos _
          have r3 : ltD 4 (.lst (fin.map TO.d)) = true := lt_tos _
          have r4 : ltD 4 (rcD l body fin) = true := by simp [rcD, ltD, ltFs, lt_tos]
          have r5 : ltD 4 (.lst (T.map txD)) = true := lt_txs T
          have r6 : ltD 4 (.str (tx l)) = true := rfl
          have r7 : ltD 4 (.ref 0) = true := rfl
          have r8 : ltD 4 (.ref 3) = true := rfl
          refine ⟨B ++ [TO.lose], F ++ [TO.lose], cutO 4 (some x), cutO 4 v10, ⟨L3, by show [O.lst (L3.map .int), .lst ((B ++ [TO.lose]).map TO.d), .lst (F.map TO.d ++ [TO.lose.d]), out_] = _; rw [eF]; rfl, hL3⟩, by simp; omega, by simp; omega, ?_⟩
          show cutRho 4 [some (.lst (ns.map .int)), some (.ref 0), some (.tup [.str (tx l), .lst (body.map TO.d), .lst (fin.map TO.d)]), some (.str (tx l)), some (.lst (body.map TO.d)), some (.lst (fin.map TO.d)), some (.ref 3), some (rcD l body fin), some (.lst (T.map txD)), some x, v10] = _
          simp only [cutRho, List.map_cons, List.map_nil]
          rw [show cutO 4 (some (D.lst (ns.map .int))) = some (D.lst (ns.map .int)) from if_pos r0, show cutO 4 (some (D.ref 0)) = some (.ref 0) from rfl, show cutO 4 (some (D.ref 3)) = some (.ref 3) from rfl, show cutO 4 (some (D.str (tx l))) = some (D.str (tx l)) from rfl, cutO_lt r1, cutO_lt r2, cutO_lt r3, cutO_lt r4, cutO_lt r5]
          rfl
  obtain ⟨d, s, e, rfl⟩ := wp_ex main
  exact ⟨s, e⟩
end
end K11
section
open PySem PySem.W PyProof.Rows
set_option maxHeartbeats 0
open_top hd for PySem.Challenge.rw_gluebridge_k11_text_recipes
theorem PySem.Challenge.cw_gluebridge_k11_text_recipes_holds : PySem.Challenge.rw_gluebridge_k11_text_recipes.Holds := by
  refine hd ?_
  k_fill
  refine Pm.walk_pm (n := 63) (k := 10) (f := K11.f_law) rfl (by decide) rfl ⟨rfl, by decide, by decide⟩ (fun w h Y => PySem.W.kIn_of Y) ?F K11.law_plain
  case F =>
    intro w mg fa h KX G hmg
    refine' K11.all_mk KX G hmg ?n_law_deck ?n_law_take ?n_law_text_order ?n_law_text_recipe ?n_check_letters ?n_shape_of ?n_fits ?n_allowed ?n_check_orders ?n_law_texts ?n_law_plain ?n_text_image ?n_law_part ?n_law_spelt ?n_law ?nc_Speller ?nc_TextRecipe ?l_law_deck ?c_law_deck ?k_law_deck ?l_law_take ?c_law_take ?k_law_take ?l_law_text_order ?c_law_text_order ?k_law_text_order ?l_law_text_recipe ?c_law_text_recipe ?k_law_text_recipe ?l_check_letters ?c_check_letters ?k_check_letters ?l_shape_of ?c_shape_of ?k_shape_of ?l_fits ?c_fits ?k_fits ?l_allowed ?c_allowed ?k_allowed ?l_check_orders ?c_check_orders ?k_check_orders ?at_TextRecipe_init ?if_TextRecipe_init ?l_TextRecipe_init ?c_TextRecipe_init ?k_TextRecipe_init ?l_law_texts ?c_law_texts ?k_law_texts ?l_law_plain ?c_law_plain ?k_law_plain ?at_Speller_init ?if_Speller_init ?l_Speller_init ?c_Speller_init ?k_Speller_init ?at_Speller_do ?if_Speller_do ?l_Speller_do ?c_Speller_do ?k_Speller_do ?at_Speller_skipped ?if_Speller_skipped ?l_Speller_skipped ?c_Speller_skipped ?k_Speller_skipped ?at_Speller_execute ?if_Speller_execute ?l_Speller_execute ?c_Speller_execute ?k_Speller_execute ?l_text_image ?c_text_image ?k_text_image ?l_law_part ?c_law_part ?k_law_part ?l_law_spelt ?c_law_spelt ?k_law_spelt ?l_law ?c_law ?k_law ?pg_Speller ?hd_Speller ?po_Speller ?sa_Speller ?mk_Speller ?kc_Speller ?pg_TextRecipe ?hd_TextRecipe ?po_TextRecipe ?sa_TextRecipe ?mk_TextRecipe ?kc_TextRecipe ?na_Speller_flags ?na_Speller_kept ?na_Speller_written ?na_TextRecipe_body ?na_TextRecipe_finish ?na_TextRecipe_letters ?bn_abs ?bn_bool ?bn_int ?bn_isinstance ?bn_len ?bn_list ?bn_min ?bn_range ?bn_str ?bn_tuple ?bn_zip ?g_BODY_ORDERS ?L_BODY_ORDERS ?lo_BODY_ORDERS ?g_BOUNDS ?L_BOUNDS ?lo_BOUNDS ?g_FINISH_ORDERS ?L_FINISH_ORDERS ?lo_FINISH_ORDERS ?g_FLAGS ?g_LETTERS ?g_MOST_DIVISOR ?g_MOST_ORDERS ?g_NUMBER_ORDERS ?L_NUMBER_ORDERS ?lo_NUMBER_ORDERS
    (case n_law_deck => k_is)
    (case n_law_take => k_is)
    (case n_law_text_order => k_is)
    (case n_law_text_recipe => k_is)
    (case n_check_letters => k_is)
    (case n_shape_of => k_is)
    (case n_fits => k_is)
    (case n_allowed => k_is)
    (case n_check_orders => k_is)
    (case n_law_texts => k_is)
    (case n_law_plain => k_is)
    (case n_text_image => k_is)
    (case n_law_part => k_is)
    (case n_law_spelt => k_is)
    (case n_law => k_is)
    (case nc_Speller => k_is)
    (case nc_TextRecipe => k_is)
    (case l_law_deck => k_is)
    (case c_law_deck => k_is)
    (case k_law_deck => k_is)
    (case l_law_take => k_is)
    (case c_law_take => k_is)
    (case k_law_take => k_is)
    (case l_law_text_order => k_is)
    (case c_law_text_order => k_is)
    (case k_law_text_order => k_is)
    (case l_law_text_recipe => k_is)
    (case c_law_text_recipe => k_is)
    (case k_law_text_recipe => k_is)
    (case l_check_letters => k_is)
    (case c_check_letters => k_is)
    (case k_check_letters => k_is)
    (case l_shape_of => k_is)
    (case c_shape_of => k_is)
    (case k_shape_of => k_is)
    (case l_fits => k_is)
    (case c_fits => k_is)
    (case k_fits => k_is)
    (case l_allowed => k_is)
    (case c_allowed => k_is)
    (case k_allowed => k_is)
    (case l_check_orders => k_is)
    (case c_check_orders => k_is)
    (case k_check_orders => k_is)
    (case at_TextRecipe_init => k_is)
    (case if_TextRecipe_init => k_is)
    (case l_TextRecipe_init => k_is)
    (case c_TextRecipe_init => k_is)
    (case k_TextRecipe_init => k_is)
    (case l_law_texts => k_is)
    (case c_law_texts => k_is)
    (case k_law_texts => k_is)
    (case l_law_plain => k_is)
    (case c_law_plain => k_is)
    (case k_law_plain => k_is)
    (case at_Speller_init => k_is)
    (case if_Speller_init => k_is)
    (case l_Speller_init => k_is)
    (case c_Speller_init => k_is)
    (case k_Speller_init => k_is)
    (case at_Speller_do => k_is)
    (case if_Speller_do => k_is)
    (case l_Speller_do => k_is)
    (case c_Speller_do => k_is)
    (case k_Speller_do => k_is)
    (case at_Speller_skipped => k_is)
    (case if_Speller_skipped => k_is)
    (case l_Speller_skipped => k_is)
    (case c_Speller_skipped => k_is)
    (case k_Speller_skipped => k_is)
    (case at_Speller_execute => k_is)
    (case if_Speller_execute => k_is)
    (case l_Speller_execute => k_is)
    (case c_Speller_execute => k_is)
    (case k_Speller_execute => k_is)
    (case l_text_image => k_is)
    (case c_text_image => k_is)
    (case k_text_image => k_is)
    (case l_law_part => k_is)
    (case c_law_part => k_is)
    (case k_law_part => k_is)
    (case l_law_spelt => k_is)
    (case c_law_spelt => k_is)
    (case k_law_spelt => k_is)
    (case l_law => k_is)
    (case c_law => k_is)
    (case k_law => k_is)
    (case pg_Speller => k_is)
    (case hd_Speller => k_is)
    (case po_Speller => k_is)
    (case sa_Speller => k_is)
    (case mk_Speller => k_is)
    (case kc_Speller => k_is)
    (case pg_TextRecipe => k_is)
    (case hd_TextRecipe => k_is)
    (case po_TextRecipe => k_is)
    (case sa_TextRecipe => k_is)
    (case mk_TextRecipe => k_is)
    (case kc_TextRecipe => k_is)
    (case na_Speller_flags => k_is)
    (case na_Speller_kept => k_is)
    (case na_Speller_written => k_is)
    (case na_TextRecipe_body => k_is)
    (case na_TextRecipe_finish => k_is)
    (case na_TextRecipe_letters => k_is)
    (case bn_abs => k_is)
    (case bn_bool => k_is)
    (case bn_int => k_is)
    (case bn_isinstance => k_is)
    (case bn_len => k_is)
    (case bn_list => k_is)
    (case bn_min => k_is)
    (case bn_range => k_is)
    (case bn_str => k_is)
    (case bn_tuple => k_is)
    (case bn_zip => k_is)
    (case g_BODY_ORDERS => k_is)
    (case L_BODY_ORDERS => k_is)
    (case lo_BODY_ORDERS => rfl)
    (case g_BOUNDS => k_is)
    (case L_BOUNDS => k_is)
    (case lo_BOUNDS => rfl)
    (case g_FINISH_ORDERS => k_is)
    (case L_FINISH_ORDERS => k_is)
    (case lo_FINISH_ORDERS => rfl)
    (case g_FLAGS => k_is)
    (case g_LETTERS => k_is)
    (case g_MOST_DIVISOR => k_is)
    (case g_MOST_ORDERS => k_is)
    (case g_NUMBER_ORDERS => k_is)
    (case L_NUMBER_ORDERS => k_is)
    (case lo_NUMBER_ORDERS => rfl)
end
